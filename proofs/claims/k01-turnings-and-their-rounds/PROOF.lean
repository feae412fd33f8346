import PyProof.Rows.All
import Wide.All
import OpenK.AllK
import Wide.FinOn
import HandS.ForMost
import HandS.Exc
import HandS.ExcCtx
import HandS.TryOnly
import HandS.WordsExc
import HandS.Defaults
import HandS.HeadHook1
import HandS.HeadEnd
import HandS.TupAny
import HandS.TupMul
import HandS.Conv
import KE.GoesMore
import PyProof.Draws
import KE.GoesEnum
import HandS.Style
import HandS.List
import KE.KRevSl
import HandS.Lambda
import HandS.SortInts
import HandS.Deep
import HandS.TupLe
import HandS.IsInst
import HandS.Text
import HandS.SetFor
import HandS.AnyAll
import HandS.RaiseMore
import HandS.Steps
import HandS.Wide
import HandS.Small
import HandS.Star
import HandS.RevTup
import KE.DataFind
import PyProof.ReprRoads
import HandS.Zip
import HandS.Iter
import HandS.FStr
import HandS.More
import HandS.Head0
import HandS.Head1
import HandS.Head2
import HandS.HeadHook2
import HandS.HeadHook3
import PyProof.Rows.StrOr
import OpenK.KOwn
import HandS.ExcInit
import KE.KExcSuper
import KE.KSuper
import KE.KDflt
import HandS.ExcIs
import HandS.ExcField
import HandS.HeadHook4
import HandS.NestedK
import HandS.EndTab
import PyProof.SeqIndex
import KE.KStateDown
import PySem.Challenge.RW_leavesturned_k01_turnings_and_their_roun
set_option Elab.async false
set_option linter.all false
section
set_option maxRecDepth 100000
set_option maxHeartbeats 1000000
/-! DS0: what a def promises where no repr is under way (guards known to be none). -/
namespace DS
open PySem PySem.Spec PyProof.Rows L2

/-- no repr is under way -/
abbrev Bare (A : Around) : Prop := A.guards = some []
structure FnG (P : Program) (w : World) (K : PySem.W.Frag) (mg : Str → Option Value) (base : Heap) (CX : CXT) (k : Nat) (f : Addr) (fd : FuncData) (ps : List Str) (sp : Sp) : Prop where
  arity : ∀ vs H Q E, sp vs H Q E → vs.length = ps.length
  go : ∀ (A : Around) (fr : List Env) (s : Shared) (H : Hp) (ar : Args) (us : List Value) (vs : List V) (Q : VK) (E : XK), Bare A → Room k A → Env0 P w K mg base A fr s H →
    BindsTo s fd ar (ps.zip us) → Vals vs us → sp vs H Q E → codeAny (model P w) A (.call (.ref f) ar) (CR CX fr P w H s Q E) s
theorem FnG.up {P : Program} {w : World} {K : PySem.W.Frag} {mg : Str → Option Value} {base : Heap} {CX : CXT} {j k : Nat} {f : Addr} {fd : FuncData} {ps : List Str} {sp : Sp}
    (F : FnG P w K mg base CX j f fd ps sp) (le : j ≤ k) : FnG P w K mg base CX k f fd ps sp :=
  ⟨F.arity, fun A fr s H ar us vs Q E g room => F.go A fr s H ar us vs Q E g (room.mono le)⟩
section
variable {X : Cx} {CX : CXT} {k : Nat} {f : Addr} {fd : FuncData} {ps : List Str} {sp : Sp} {E : XK}
/-- the callee runs, whatever its arguments are -/
theorem FnG.use {pins : List (Addr × Obj)} {σ : L2.St} {H : Hp} {s : Shared} {Q : VK} {us all : List Value} {kw : List (Str × Value)} {vs : List V}
    (F : FnG X.prog X.w X.K X.mg X.base CX k f fd ps sp) (g : Bare X.A) (room : Room k X.A) (pas : Passes CX X E) (I : Inv X pins σ H s)
    (bi : BindsTo s fd ⟨us, kw⟩ (ps.zip all)) (rel : Vals vs all) (want : sp vs H Q E) : wpAny (model X.prog X.w) X.A (call (.ref f) us kw) (EP X pins σ Q) X.xe s := by
  refine wpAny_call (codeAny_mono (F.go X.A X.stack s H _ all vs Q E g room I.env0 bi rel want) ?_)
  intro out s2 fin
  match out, fin with
  | .error e, fin => exact pas _ _ _ _ e s2 I fin
  | .ok (.ret u), fin => exact I.after fin
variable {dvs : List V} {ds : List Value} {x : Str} {p pos : Pos} {e : Expr} {es : List Expr} {t : TA}
theorem pe_callG (F : FnG X.prog X.w X.K X.mg X.base CX k f fd ps sp) (g : Bare X.A) (room : Room k X.A) (gl : Gl X x) (at_ : X.mg x = some (.ref f)) (kept : PySem.W.keepIn X.K (.ref f) = true) (bi : Binds X.K fd ps ds) (dfl : Vals dvs ds) (pas : Passes CX X E)
    (args : PA X (e :: es) t) (nd : (x == ("__debug__" : Str)) = false := by decide) (h1 : starEach (e :: es) X.env = (false, eval e X.env) :: starEach es X.env := by rfl) (h2 : (backTo pos (starEach es X.env)).any (·.1) = false := by rfl) :
    PE X (.Call (.Name x p) (e :: es) [] pos) (tCall sp dvs E t) := by
  constructor
  intro pins s σ H Q I want
  apply wpAny_Call_Name_kw
  refine ld_glob I gl at_ (PySem.W.callWith_K (h₀ := X.base) I.ok.mod.kin kept ?_ h1 h2) nd
  refine thn (args.run pos pins s σ H _ I want) ?_
  rintro us s1 ⟨vs, H1, I1, rel, want1⟩
  have rel1 := rel.append dfl
  exact ⟨I1.kIn, F.use g room pas I1 (bi s1 us I1.kIn (rel1.length.symm.trans (F.arity _ _ _ _ want1))) rel1 want1⟩
theorem pe_callG0 (F : FnG X.prog X.w X.K X.mg X.base CX k f fd ps sp) (g : Bare X.A) (room : Room k X.A) (gl : Gl X x) (at_ : X.mg x = some (.ref f)) (kept : PySem.W.keepIn X.K (.ref f) = true) (bi : Binds X.K fd ps ds) (dfl : Vals dvs ds) (pas : Passes CX X E)
    (nd : (x == ("__debug__" : Str)) = false := by decide) : PE X (.Call (.Name x p) [] [] pos) (tCall sp dvs E tNil) := by
  constructor
  intro pins s σ H Q I want
  apply wpAny_Call_Name_kw
  have rel1 : Vals ([] ++ dvs) ([] ++ ds) := dfl
  exact ld_glob I gl at_ (PySem.W.callWith_K0 I.kIn kept (F.use (us := []) g room pas I (bi s [] I.kIn (rel1.length.symm.trans (F.arity _ _ _ _ want))) rel1 want)) nd
end
section
variable {X : Cx} {CX : CXT} {k n : Nat} {f : Addr} {fd : FuncData} {ps ks : List Str} {sp : Sp} {E : XK} {x : Str} {p pos : Pos} {e : Expr} {es : List Expr} {kws : List Keyword} {t tk : TA} {bg : List Value → List Value → List Value} {bv : List V → List V → List V}
theorem pe_callGk (F : FnG X.prog X.w X.K X.mg X.base CX k f fd ps sp) (g : Bare X.A) (room : Room k X.A) (gl : Gl X x) (at_ : X.mg x = some (.ref f)) (kept : PySem.W.keepIn X.K (.ref f) = true) (bi : KBn X.K fd ps n ks bg bv) (pas : Passes CX X E)
    (args : PA X (e :: es) t) (kwa : PK X kws tk) (k1 : (backToKw pos (keywordEach kws X.env)).all (·.1.isSome) = true := by rfl) (k2 : (backToKw pos (keywordEach kws X.env)).filterMap (·.1) = ks := by rfl)
    (nd : (x == ("__debug__" : Str)) = false := by decide) (h1 : starEach (e :: es) X.env = (false, eval e X.env) :: starEach es X.env := by rfl)
    (h2 : ((backTo pos (starEach (e :: es) X.env)).any (·.1) || (backToKw pos (keywordEach kws X.env)).any (·.1.isNone)) = false := by rfl) :
    PE X (.Call (.Name x p) (e :: es) kws pos) (tCallN n ks.length sp bv E t tk) := by
  constructor
  intro pins s σ H Q I want
  apply wpAny_Call_Name_kw
  refine ld_glob I gl at_ (PySem.W.callWith_KW (h₀ := X.base) I.ok.mod.kin kept k1 ?_ h2 h1) nd
  refine thn (args.run pos pins s σ H _ I want) ?_
  rintro us s1 ⟨vs, H1, I1, rel, want1⟩
  refine thn (kwa.run pos pins s1 σ H1 _ I1 want1) ?_
  rintro ws s2 ⟨zs, H2, I2, relK, c1, c2, want2⟩
  rw [k2]
  exact ⟨I2.kIn, F.use g room pas I2 (bi.to s2 us ws I2.kIn (rel.length.symm.trans c1) (relK.length.symm.trans c2)) (bi.rel rel relK) want2⟩
end
/-- a def of the text keeps its promise by its body -/
theorem FunD.okG {P : Program} {w : World} {K : PySem.W.Frag} {mg : Str → Option Value} {base : Heap} {x qual : Str} {params : Arguments} {body : List Stmt} {scope : Scope} {dvs : List V} {kws : List (Str × V)} {f : Addr} {fd : FuncData}
    {CX : CXT} {N ps : List Str} {k : Nat} {sp : Sp} (F : FunD K x qual params body scope dvs kws f fd) (S : FnScope N ps scope) (ar : ∀ vs H Q E, sp vs H Q E → vs.length = ps.length)
    (inner : ∀ (cdv : Value) (A : Around) (fr : List Env) (s : Shared) (H : Hp) (vs : List V) (Q : VK) (E : XK), Bare A → Room k (A.deeper (envOfC qual scope s.heap.objs.size f cdv)) → sp vs H Q E →
      ∃ t, PSs (cxOf CX P w K mg base N qual scope f cdv A fr s H E) body t ∧ t { nx := fun _ H' => Q .non H', rt := Q } (L2.start N vs) H) : FnG P w K mg base CX (k + 1) f fd ps sp := by
  obtain ⟨oc, od, dV, kV, doc, pm, an, cdv, ct, osl, eqn, there, code, _, _⟩ := F.ex
  subst eqn
  constructor
  · exact ar
  intro A fr s H arg us vs Q E g room e0 bi rel want
  have kin : K.In s.heap := e0.mod.kin.keeps fun b o q => (e0.bs b o q).1
  have nolim : s.heap.NoLimit := e0.mod.nolimit.keeps fun b o q => (e0.bs b o q).1
  apply codeAny_call_function room.depth (kin _ _ there) rfl S.co S.gen rfl (PySem.W.codeRec_of kin code)
  apply bi
  refine wpAny_newFunctionEnv_cells S.kind ?_ ?_
  · rintro ⟨n, v⟩ mem
    cases S.par n (List.of_mem_zip mem).1 with
    | inl l => exact .inl l
    | inr c => exact .inr ⟨c, PySem.W.cellsFrom_some _ _ _ (.inl c)⟩
  · intro env isEnv s1 inside
    subst isEnv
    refine ⟨nolim.keeps inside.toInCall.keep, codeAny_func ?_⟩
    obtain ⟨t, walk, ends⟩ := inner cdv A fr s H vs Q E g (room.deeper _) want
    have I := inv_start (CX := CX) (E := E) (cd := cdv) S room.hd e0 (ar _ _ _ _ want) rel inside
    refine wpAny_mono (walk.run [] s1 _ H _ I ends) ?_ fun _ _ z => z
    intro fl s2 done
    match fl, done with
    | .ret u, ⟨v, _, H2, J, rv, q⟩ => exact ⟨v, H2, J.os, J.bare, J.base, J.hok, rv, q⟩
    | .next, ⟨_, H2, J, q⟩ => exact ⟨V.non, H2, J.os, J.bare, J.base, J.hok, rfl, q⟩
    | .brk, ⟨_, _, _, no⟩ => exact no.elim
    | .cont, ⟨_, _, _, no⟩ => exact no.elim

/-! ### the law's own call, from the head's end -/
section
variable {P : Program} {w : World} {K : PySem.W.Frag} {mg : Str → Option Value} {CX : CXT} {k : Nat} {fa a : Addr} {fd : FuncData} {x : Str} {sp : Sp} {s1 : Shared} {vs : List Value} {ns : List Int}
/-- what is seen of the heap while H is tracked: nothing of the module -/
theorem law_at {mb : Str → Option Value} {H : Hp} (kin : K.In s1.heap) (n1 : s1.heap.Ns mainGlobals mg) (n2 : s1.heap.Ns builtinsNs mb) (n3 : ∀ x : Str, x ≠ "__name__" → mb x = bootBuiltins x) (lim : s1.heap.NoLimit) (g0 : s1.gens = #[])
    (obj : s1.heap.get? a = some { cls := .type "list", data := .seq vs.toArray }) (room : Room k callerA)
    (F : ∀ base : Heap, K.In base → base.Ns mainGlobals mg → FnG P w K mg base CX k fa fd [x] sp) (bi : ∀ (s : Shared) (u : Value), BindsTo s fd ⟨[u], []⟩ [(x, u)])
    (want : sp [.ref a] H (fun v _ => v = .bl true) fun _ _ _ => False) (noX : ∀ e s', CX [] H s1 (fun _ _ _ => False) e s' → False)
    (only : Only H) (held : HOk P w H s1.heap) (just : ∀ b, H b ≠ none → b = a) (apart : H a ≠ none → K.lookup a = none) :
    codeAny (model P w) callerA (.call (.ref fa) ⟨[.ref a], []⟩) (fun r s' => r = .ok (.ret (.bool true)) ∧ OldK s1.heap s'.heap ∧ s'.os = s1.os ∧ AllBare s'.gens) s1 := by
  have off : ∀ {b : Addr}, b ≠ a → H b = none := fun {b} ne => Classical.byContradiction fun t => ne (just b t)
  have noDict : ∀ {b : Addr} {o : Obj} {es : Array DictEntry} {ep : Nat}, s1.heap.get? b = some o → o.data = .dict es ep → b ≠ a := by
    intro b o es ep q d z
    rw [z, obj] at q
    obtain rfl := Option.some.inj q
    exact nomatch (show Data.seq vs.toArray _ = Data.dict es ep from d)
  have ns' : ∀ {b : Addr} {m : Str → Option Value}, s1.heap.Ns b m → (hidT s1.heap H).Ns b m := by
    rintro b m ⟨o, es, ep, q, d, r⟩
    exact ⟨o, es, ep, hidT_get q (off (noDict q d)), d, r⟩
  have kin' : K.In (hidT s1.heap H) := by
    intro b o q
    refine hidT_get (kin b o q) (Classical.byContradiction fun t => ?_)
    have z := just b t
    subst z
    rw [apart t] at q
    cases q
  obtain ⟨mc, l1, l2⟩ := lim
  have E0 : Env0 P w K mg (hidT s1.heap H) callerA [] s1 H :=
    { frames := rfl, mod := ⟨kin', ns' n1, ⟨mb, ns' n2, n3⟩, ⟨mc, ns' l1, l2⟩⟩, bs := fun b o q => of_hidT q, bsz := Nat.le_of_eq (hidT_size _ _), funs := trivial
      frf := (fun b q => nomatch (show b ∈ ([] : List Addr) from q)), hok := held, bare := .of_eq g0 }
  refine codeAny_mono ((F _ kin' (ns' n1)).go callerA [] s1 H _ [.ref a] [.ref a] _ _ rfl room E0 (bi s1 _) (.cons rfl .nil) want) ?_
  intro r s2 fin
  match r, fin with
  | .error e, fin => exact (noX e s2 fin).elim
  | .ok (.ret u), ⟨v, H2, os2, bare2, un, held2, rel, yes⟩ =>
    subst yes
    obtain rfl : u = .bool true := rel
    refine ⟨rfl, OldK.of_keep fun b o q => ?_, os2, bare2⟩
    rcases only b with z | ⟨ob, xs, z⟩
    · exact un.keep b o q z (fun m => nomatch (show b ∈ ([] : List Addr) from m)) (by simp)
    · have before := (held b _ z).1
      have behind := (held2 b _ (un.frzs b ob _ z)).1
      rw [q] at before
      rw [Option.some.inj before]
      exact behind
theorem law_callG {mb : Str → Option Value} (kin : K.In s1.heap) (n1 : s1.heap.Ns mainGlobals mg) (n2 : s1.heap.Ns builtinsNs mb) (n3 : ∀ x : Str, x ≠ "__name__" → mb x = bootBuiltins x) (lim : s1.heap.NoLimit) (g0 : s1.gens = #[])
    (obj : s1.heap.get? a = some { cls := .type "list", data := .seq vs.toArray }) (areInts : IntsAre vs ns) (short : ns.length ≤ sizeLine) (room : Room k callerA)
    (F : ∀ base : Heap, K.In base → base.Ns mainGlobals mg → FnG P w K mg base CX k fa fd [x] sp) (bi : ∀ (s : Shared) (u : Value), BindsTo s fd ⟨[u], []⟩ [(x, u)])
    (want : ∀ H : Hp, Only H → SqL K H a (ns.map V.int) → sp [.ref a] H (fun v _ => v = .bl true) fun _ _ _ => False) (noX : ∀ H e s', CX [] H s1 (fun _ _ _ => False) e s' → False) :
    codeAny (model P w) callerA (.call (.ref fa) ⟨[.ref a], []⟩) (fun r s' => r = .ok (.ret (.bool true)) ∧ OldK s1.heap s'.heap ∧ s'.os = s1.os ∧ AllBare s'.gens) s1 := by
  have rel := vals_ints areInts
  by_cases known : K.lookup a = none
  · let so : Obj := { cls := .type "list", data := .seq vs.toArray }
    let H : Hp := fun b => if b = a then some (.frz so (.lst (ns.map V.int))) else none
    have atA : H a = some (.frz so (.lst (ns.map V.int))) := if_pos rfl
    have offA : ∀ {b}, b ≠ a → H b = none := fun ne => if_neg ne
    have onlyH : Only H := fun b => Classical.byCases (fun z : b = a => .inr ⟨_, _, z ▸ atA⟩) fun z => .inl (offA z)
    refine law_at kin n1 n2 n3 lim g0 obj room F bi (want H onlyH (.inl (.inr ⟨so, atA⟩))) (noX H) onlyH ?_ (fun b t => Classical.byContradiction fun ne => t (offA ne)) fun _ => known
    intro b o q
    by_cases z : b = a
    · subst z
      rw [atA] at q
      obtain rfl := Option.some.inj q
      exact ⟨obj, by rw [List.length_map]; exact short, vs, _, rel, obj⟩
    · rw [offA z] at q
      cases q
  · obtain ⟨o, at_⟩ := Option.ne_none_iff_exists'.mp known
    have same := kin a o at_
    rw [obj] at same
    obtain rfl := Option.some.inj same
    have len : vs.toArray.size ≤ sizeLine := by rw [List.size_toArray, areInts.length]; exact short
    exact law_at (H := fun _ => none) kin n1 n2 n3 lim g0 obj room F bi (want _ (fun _ => .inl rfl) (.inr ⟨_, vs.toArray, _, at_, rfl, rfl, rfl, len, rel⟩)) (noX _) (fun _ => .inl rfl) (fun _ _ q => nomatch q) (fun _ t => absurd rfl t) fun t => absurd rfl t
theorem walk_ofG {l : PySem.W.OpenLaw} {n : Nat} {q : Program} {loose : List Str} {XP : (Str → Option Value) → Heap → Prop} {YP : World → Heap → Prop} {d : DefRec} {CX : World → CXT}
    (most : l.most = some n) (most2 : n ≤ sizeLine) (noDefaults : d.params.defaults = []) (room : Room k callerA)
    (F : ∀ (w : World) (mg : Str → Option Value) (fa : Addr) (h : Heap), YP w h → h.Ns mainGlobals mg → mg d.name = some (.ref fa) →
      ∃ (K : PySem.W.Frag) (fd : FuncData) (sp : Sp), K.In h ∧ (∀ (s : Shared) (u : Value), BindsTo s fd ⟨[u], []⟩ [(x, u)]) ∧
        (∀ (H : Hp) (a : Addr) (ns : List Int), ns.length ≤ n → Only H → SqL K H a (ns.map V.int) → sp [.ref a] H (fun v _ => v = .bl true) fun _ _ _ => False) ∧
        ∀ base : Heap, K.In base → base.Ns mainGlobals mg → FnG l.prog w K mg base (CX w) k fa fd [x] sp)
    (noX : ∀ (w : World) (H : Hp) (s : Shared) (e : Value) (s' : Shared), CX w [] H s (fun _ _ _ => False) e s' → False) : PySem.W.WalkO q loose XP YP l.row.toRowW d [] (fun f vs => PySem.call f vs) := by
  apply Att.attach_call most noDefaults
  intro w s0 s1 mg mb fa o pm cd doc a vs ns G Y _ _ _ at_ obj areInts short g0
  obtain ⟨K, fd, sp, kin, bi, want, all⟩ := F w mg fa _ Y G.T.g at_
  exact law_callG kin G.T.g G.T.b G.T.builtins G.T.nolimit g0 obj areInts (Nat.le_trans short most2) room all bi (fun H => want H a ns short) fun H => noX w H s1
end
end DS
end
section
set_option maxRecDepth 100000
set_option maxHeartbeats 1000000
/-! DST: tuples that are made: the object is known (it has no dict of its own). -/
namespace DS
open PySem PySem.Spec PyProof.Rows L2
/-- a new tuple -/
def NewT (H : Hp) (Q : VK) (xs : List V) : Prop := ∀ (o : Obj) (p : Addr), o.dict = none → H p = none → Q (.ref p) (upd H p (.frz o (.tup xs)))
section
variable {X : Cx} {pins : List (Addr × Obj)} {σ : L2.St} {H : Hp} {s : Shared} {Q : VK}
theorem laid_tup {xs : List V} {its : List Value} (I : Inv X pins σ H s) (r : Vals xs its) (hz : xs.length ≤ sizeLine) (q : NewT H Q xs) : EP X pins σ Q (.ref s.heap.objs.size) { s with heap := s.heap.push { cls := .type "tuple", data := .seq its.toArray } } := by
  refine ⟨.ref s.heap.objs.size, _, I.laid (t' := s.toks) (o := .frz { cls := .type "tuple", data := .seq its.toArray } (.tup xs)) (fun b ob z => Heap.get?_push_of_some _ z) (Nat.le_refl _) ?_, rfl, q _ _ rfl (I.hok.fresh (Nat.le_refl _))⟩
  exact ⟨Heap.get?_push_size _ rfl, hz, its, r, IsTup.new _ _⟩
def tTupF (t : TA) : TE := fun σ H Q => t σ H fun xs H1 => xs.length ≤ sizeLine ∧ NewT H1 Q xs
theorem pe_tupF {es : List Expr} {t : TA} {x1} {pos : Pos} (h : PA X es t) : PE X (.Tuple es x1 pos) (tTupF t) := by
  refine ⟨fun pins s σ H Q I hq => ?_⟩
  apply wpAny_Tuple_spliced
  refine thn (h.run pos pins s σ H _ I hq) fun us s1 got => ?_
  obtain ⟨xs, H1, I1, r, z, q⟩ := got
  exact ⟨by rw [← r.length]; exact z, laid_tup I1 r z q⟩
/-- tuple(xs) -/
theorem call_tupleF : CallR X (.type "tuple") (fun xs H Q => ∃ p ys, xs = [.ref p] ∧ ((SqL X.K H p ys ∧ NewT H Q ys) ∨ (SqT X.K H p ys ∧ Q (.ref p) H))) := by
  intro pins s σ H xs us Q I r h
  obtain ⟨p, ys, rfl, h⟩ := h
  obtain ⟨u, rfl, ru⟩ := vals1 r
  cases ru
  rcases h with ⟨sq, q⟩ | ⟨sq, q⟩
  · obtain ⟨its, rv, pl, hz⟩ := I.list sq
    have hl := rv.length
    refine call_tuple_list pl.isList (fun h' kp => ?_) (by simp only [List.size_toArray] <;> omega)
    exact laid_tup (I.kept (t' := s.toks) kp) rv hz q
  · obtain ⟨its, _, pl, _⟩ := I.tuple sq
    exact call_tuple_same pl ⟨.ref p, H, I, rfl, q⟩
/-- t + u -/
def rCatF (K : PySem.W.Frag) : R2 := fun x y H Q => ∃ a b xs ys, x = .ref a ∧ y = .ref b ∧ SqT K H a xs ∧ SqT K H b ys ∧ xs.length + ys.length ≤ sizeLine ∧
  (xs = [] → Q (.ref b) H) ∧ (xs ≠ [] → ys = [] → Q (.ref a) H) ∧ (xs ≠ [] → ys ≠ [] → NewT H Q (xs ++ ys))
theorem nil_of {xs : List V} {its : List Value} (r : Vals xs its) : xs = [] ↔ its = [] := by cases r <;> simp
theorem op_catF : OpR X (binaryOp .Add) (rCatF X.K) := by
  intro pins s σ H x y v u Q I rx ry h
  obtain ⟨a, b, xs, ys, rfl, rfl, ha, hb, hz, q0, q1, q2⟩ := h
  cases rx
  cases ry
  obtain ⟨its, r1, p1, _⟩ := I.tuple ha
  obtain ⟨jts, r2, p2, _⟩ := I.tuple hb
  by_cases hx : xs = []
  · subst hx
    cases r1
    exact cat_tup0 p1 p2 ⟨.ref b, H, I, rfl, q0 rfl⟩
  · refine HT.cat_tup p1 p2 (fun z => hx ((nil_of r1).mpr z)) (fun z => ⟨.ref a, H, I, rfl, q1 hx ((nil_of r2).mpr z)⟩) (fun z => ?_) (by rw [← r1.length, ← r2.length]; exact hz)
    exact laid_tup I (r1.append r2) (by rw [List.length_append]; exact hz) (q2 hx fun w => z ((nil_of r2).mp w))
/-- t[lo:hi] -/
def rSlF (K : PySem.W.Frag) : V → Option Int → Option Int → Hp → VK → Prop := fun x lo hi H Q => ∃ a xs, x = .ref a ∧ SqT K H a xs ∧
  (HT.sIx xs.length 0 lo = 0 ∧ HT.sIx xs.length xs.length hi = xs.length → Q (.ref a) H) ∧ (¬ (HT.sIx xs.length 0 lo = 0 ∧ HT.sIx xs.length xs.length hi = xs.length) → NewT H Q (cutV xs lo hi))
theorem sl_tupF : SlR X (rSlF X.K) := by
  intro pins s σ H x v vl vu lo hi sl Q I rx hs pl pu h
  obtain ⟨a, xs, rfl, sq, q1, q2⟩ := h
  cases rx
  obtain ⟨its, r, tu, hz⟩ := I.tuple sq
  have hl : its.toArray.size = xs.length := by rw [List.size_toArray]; exact r.length.symm
  refine ⟨"tuple", _, PyProof.Rows.slot_tuple_getitem.lookup, tu.typeIs, ?_⟩
  by_cases whole : HT.sIx xs.length 0 lo = 0 ∧ HT.sIx xs.length xs.length hi = xs.length
  · exact getItem_tuple_whole tu hs pl pu (by rw [hl]; exact whole) ⟨.ref a, H, I, rfl, q1 whole⟩
  · refine HT.getItem_tuple_cut tu hs pl pu (by rw [hl]; exact whole) ?_ (by rw [hl]; exact hz)
    rw [hl]
    exact laid_tup I ((r.drop _).take _) (Nat.le_trans (cutV_length xs lo hi) hz) (q2 whole)
/-- t * k -/
def rRepF (K : PySem.W.Frag) : R2 := fun x y H Q => ∃ l k xs, x = .ref l ∧ y = .int k ∧ SqT K H l xs ∧ xs ≠ [] ∧ 2 ≤ k ∧ k ≤ 1000 ∧ xs.length ≤ 1000 ∧ NewT H Q (List.replicate k.toNat xs).flatten
theorem op_repF : OpR X (binaryOp .Mult) (rRepF X.K) := by
  intro pins s σ H x y v u Q I rx ry h
  obtain ⟨l, k, xs, rfl, rfl, sq, hne, k2, k3, hz, q⟩ := h
  cases rx
  obtain ⟨t, rfl⟩ := ry
  obtain ⟨its, r, ⟨⟨cls, dd, data, sl⟩, at_, hc, n, hd⟩, hs⟩ := I.tuple sq
  dsimp only at hc hd
  subst hc hd
  have lenI : its.length = xs.length := r.length.symm
  have full : its.toArray.isEmpty = false := by
    cases its with
    | nil => exact absurd (List.eq_nil_of_length_eq_zero lenI.symm) hne
    | cons a b => rfl
  have sizI : its.toArray.size = xs.length := by rw [List.size_toArray, lenI]
  have few : ((its.toArray.size : Nat) : Int) * k ≤ 1000000 := by
    rw [sizI]
    have : ((xs.length : Nat) : Int) * k ≤ 1000 * k := Int.mul_le_mul_of_nonneg_right (by omega) (by omega)
    omega
  have million : k.toNat * xs.length ≤ 1000 * 1000 := Nat.mul_le_mul (by omega) hz
  have flen : (List.replicate k.toNat its).flatten.length ≤ sizeLine := by
    rw [PyProof.Rows.lm_len_rep_flat, lenI, sizeLine_eq]
    omega
  have b0 : (decide (k < -(2 ^ 63)) || decide (k ≥ 2 ^ 63)) = false := by rw [decide_eq_false (by omega), decide_eq_false (by omega)]; rfl
  have b1 : (its.toArray.isEmpty || k == 1) = false := by rw [full, Bool.false_or]; exact beq_eq_false_iff_ne.mpr (by omega)
  have b2 : (decide (k ≤ 0) || its.toArray.isEmpty) = false := by rw [full, Bool.or_false]; exact decide_eq_false (by omega)
  have b4 : Builtin.Tuple.tupleTooMany (((its.toArray.size : Nat) : Int) * k) = false := by
    unfold Builtin.Tuple.tupleTooMany
    rw [sizeLine_eq]
    exact decide_eq_false (by omega)
  refine wpAny_binaryOp_repeat_ref (T := "tuple") (U := "int") (by decide) ⟨_, at_, rfl⟩ (fun s' => typeIs_int s' k t) noFill_tuple_mul F.fills_int_mul F.slot_int_rmul repeat_tuple F.slot_int_index.lookup ?_
  refine call_meets F.slot_int_rmul (typeIs_int s k t) F.entry_int_rmul (F.args_int_rmul_2 _ _) (int_rmul_tuple k t l its.toArray n dd sl) ⟨at_, rfl, ⟨_, at_, rfl⟩, ?_⟩
  refine call_meets F.slot_tuple_mul ⟨_, at_, rfl⟩ F.entry_tuple_mul (F.args_tuple_mul_2 _ _) (tuple_mulW l its.toArray n dd sl k t b0 b1 b2 (by omega) b4 (by rw [size_rep, List.size_toArray]; exact flen)) ⟨at_, ?_⟩
  rw [size_rep]
  exact laid_tup I (r.rep k.toNat) (by rw [PyProof.Rows.lm_len_rep_flat, sizeLine_eq]; omega) q
/-- tuple(range(..)) -/
def tTupRgF (te : L2.St → Hp → (Int → Int → Hp → Prop) → Prop) : TE := fun σ H Q => te σ H fun a b H1 => RgOk a b ∧ NewT H1 Q (rgV a b)
theorem pe_tupRgF {e : Expr} {te : L2.St → Hp → (Int → Int → Hp → Prop) → Prop} {p pos : Pos} (hc : X.calm = true) (hg : Gl X "tuple") (hm : X.mg "tuple" = none) (he : PRg X e te) (na : starEach [e] X.env = (false, eval e X.env) :: starEach [] X.env := by rfl) :
    PE X (.Call (.Name "tuple" p) [e] [] pos) (tTupRgF te) := by
  refine ⟨fun pins s σ H Q I h => ?_⟩
  refine Call_ (ld_blt I hg hm boot_tuple (PyProof.Rows.callWith_type1 (args_cons (thn (he pins s σ H _ I h) fun x s1 got => args_nil ?_) na) na))
  obtain ⟨r, a, b, t, u, v, H1, ex, hr, I1, ok, q⟩ := got
  subst ex
  obtain ⟨b1, b2, b3, b4, b5⟩ := ok
  refine call_tuple_range (n := (b - a).toNat) (I1.ok.hd hc) hr (small_one b1 b2 b3 b4) (rangeSize_nat a b) b5 fun h' tk acc keep acs => ?_
  have I2 : Inv X pins σ H1 { s1 with heap := h', toks := tk } := I1.kept keep
  have := laid_tup (its := acc.toList) I2 (vals_rg acs) (by rw [rgV_length, sizeLine_eq]; omega) q
  rw [Array.toArray_toList] at this
  exact this
end
end DS
end
section
set_option maxRecDepth 100000
set_option maxHeartbeats 1000000
/-! DSE: enumerate over a tuple. -/
namespace DSE
open PySem PySem.Spec PyProof.Rows L2
/-- the tuple at a, each item in a new pair with its place -/
def IteT (K : PySem.W.Frag) (a : Addr) : It :=
  ⟨fun i H => ∃ (ts : List V) (y : V), SqT K H a ts ∧ ts[i]? = some y, fun i H v H' => ∃ T y, v = .ref T ∧ H T = none ∧ H' = upd H T (.tup [.int (i : Nat), y]) ∧ ∀ ts, SqT K H a ts → ts[i]? = some y, fun i H => ∃ ts : List V, SqT K H a ts ∧ ts.length = i⟩
theorem two {P : Addr → Prop} {e it : Addr} (h1 : P e) (h2 : P it) : ∀ c ∈ [e, it], P c := fun c hc => by
  rcases (by simpa using hc : c = e ∨ c = it) with z | z <;> rw [z] <;> assumption
theorem turn_enumT {P : Program} {w : World} {K : PySem.W.Frag} {elts : List Expr} {kk : Nat} {tpos : Pos} (a e it : Addr) :
    Turn P w K (.Tuple elts kk tpos) (IteT K a) [e, it] e (fun i h => (∃ v, IsEnum h e it ((i : Nat) : Int) v) ∧ h.IsTupleIter it a i ∧ e ≠ it ∧ a ≠ it ∧ e ≠ a) where
  mem := by simp
  obj := fun i h st => by
    obtain ⟨⟨v, en⟩, ⟨o, h1, h2, h3⟩, _⟩ := st
    exact two ⟨_, en, fun _ q => nomatch q⟩ ⟨o, h1, fun v q => by rw [h3] at q; cases q⟩
  keep := fun i h h' st k => let ⟨⟨v, en⟩, ti, r⟩ := st; ⟨⟨v, k e (by simp) _ en⟩, ti.at fun o q => k it (by simp) o q, r⟩
  item := by
    intro X hP hw hK hc i pins s σ H E I hf st hg
    subst hP hw hK
    obtain ⟨⟨v, en⟩, ti, ne1, ne2, ne3⟩ := st
    obtain ⟨ts, y, hq, hy⟩ := hg
    obtain ⟨its, rv, tp, _⟩ := I.tuple hq
    obtain ⟨u, hu, ru⟩ := rv.get hy
    have le : e < s.heap.objs.size := Heap.lt_size en
    have li : it < s.heap.objs.size := by obtain ⟨_, q, _⟩ := ti; exact Heap.lt_size q
    have hi : i < its.toArray.size := by
      have := (List.getElem?_eq_some_iff.mp hu).1
      simpa using this
    refine wpAny_pyNext_enum_itemD (Draws.tuple (A := X.A.in1) (show X.A.in1.handled = none from I.ok.hd hc) it a ne2 its.toArray) en ⟨ti, tp⟩ hi ne1 (by simp [ne1, ne3]) fun x h' tk hx out st2 hT hsz hk => ?_
    have hxu : x = u := by
      simp at hx
      rw [hu] at hx
      exact (Option.some.inj hx).symm
    subst hxu
    refine ⟨_, rfl, wpAny_letOwnedTupleGo_enum (s := { s with heap := h', toks := tk + 1 }) out fun h2 en2 sb => ?_⟩
    have hT2 : h2.get? s.heap.objs.size = some { cls := .type "tuple", data := .seq #[.int i tk, x] } := (sb.2 _ (Nat.ne_of_gt le)).trans hT
    have mk : ObjOk X.prog X.w (upd H s.heap.objs.size (.tup [.int (i : Nat), y])) h2 s.heap.objs.size (.tup [.int (i : Nat), y]) :=
      ⟨by show 2 ≤ sizeLine; decide, [.int i tk, x], .cons ⟨_, rfl⟩ (.cons ru .nil), ⟨_, hT2, rfl, _, rfl⟩⟩
    have I2 : Inv X pins σ (upd H s.heap.objs.size (.tup [.int (i : Nat), y])) { s with heap := h2, toks := tk + 1 } :=
      I.turnedNew (ch := [e, it]) (fun c ob nc q => (sb.2 c (fun z => nc (by simp [z]))).trans (hk c ob (fun z => nc (by simp [z])) (fun z => nc (by simp [z])) q)) hf (Nat.le_refl _) mk
    refine ⟨.ref s.heap.objs.size, _, I2, rfl, ⟨_, y, rfl, I.hok.fresh (Nat.le_refl _), rfl, fun zs hz => by rw [I.tuple_inj hz hq]; exact hy⟩, ⟨⟨x, ?_⟩, st2.1.at fun o q => (sb.2 it (Ne.symm ne1)).trans q, ne1, ne2, ne3⟩, ?_⟩
    · rw [show ((i + 1 : Nat) : Int) = (i : Int) + 1 by omega]
      exact en2
    · exact two (P := fun c => upd H s.heap.objs.size (.tup [.int (i : Nat), y]) c = none) (by rw [upd_ne (Nat.ne_of_lt le)]; exact (hf e (by simp)).1) (by rw [upd_ne (Nat.ne_of_lt li)]; exact (hf it (by simp)).1)
  done := by
    intro X hP hw hK hc i pins s σ H E I hf st hg
    subst hP hw hK
    obtain ⟨⟨v, en⟩, ti, ne1, ne2, ne3⟩ := st
    obtain ⟨ts, hq, hl⟩ := hg
    obtain ⟨its, rv, tp, _⟩ := I.tuple hq
    obtain ⟨f0, f1, f2, f3, f4, f5⟩ := hf it (by simp)
    have lv := rv.length
    have ei : its.toArray.size = i := by simp; omega
    exact wpAny_pyNext_enum_endD (n := its.toArray.size) (Draws.tuple (A := X.A.in1) (show X.A.in1.handled = none from I.ok.hd hc) it a ne2 its.toArray) en ⟨by rw [ei]; exact ti, tp⟩
      fun h' eb => ⟨rfl, I.turned (t' := s.toks) (fun b o hb q => eb b o hb q) f0 f1 f3 f4 f5⟩
  self := fun A i s Q E st h => let ⟨⟨_, en⟩, _⟩ := st; wpAny_pyIter_enum en h
set_option maxHeartbeats 4000000 in
/-- enumerate(v): one argument, whatever v is -/
theorem meets_enum1 {v : Value} {o : Obj} {H : Heap → Prop} (B : Begins v o H) : Meets (Builtin.«enumerate.__new__» ⟨[.type "enumerate", v], []⟩)
    (fun _ R s => H s.heap ∧ R (.ok (.ret (.ref (s.heap.push o).objs.size))) { s with heap := (s.heap.push o).push { cls := .type "enumerate", data := .fields #[.none, .bool false, .ref s.heap.objs.size, rawInt 0, .none, .none] } }) :=
  .of_wp fun prog w A R s hh => by
    obtain ⟨hp, g, d, tk, os⟩ := s
    obtain ⟨hH, hR⟩ := hh
    have sub := sub_enumerate
    have it1 : ∀ {A' : Around} {E : Value → Shared → Prop} {Q : Value → Shared → Prop}, Q (.ref hp.objs.size) ⟨hp.push o, g, d, tk, os⟩ → wpAny (model prog w) A' (pyIter v) Q E ⟨hp, g, d, tk, os⟩ :=
      fun {_ _ _} z => B.iter prog w _ _ ⟨hp, g, d, tk, os⟩ _ hH z
    wp_walk using it1
    refine wpAny_stack_any fun st => wpAny_pure ?_
    split
    · rename_i c _ _ _ _ _
      cases (c == Value.type "enumerate") <;>
      · wp_walk using it1
        exact ⟨_, rfl, hR⟩
    · wp_walk using it1
      exact ⟨_, rfl, hR⟩
theorem enum1_begins {prog : Program} {w : World} {A : Around} {E : Value → Shared → Prop} {s : Shared} {v : Value} {o : Obj} {H : Heap → Prop} {Q : Value → Shared → Prop} (B : Begins v o H) (hH : H s.heap)
    (h : ∀ h', IsEnum h' (s.heap.objs.size + 1) s.heap.objs.size 0 .none → h'.get? s.heap.objs.size = some o → h'.objs.size = s.heap.objs.size + 2 → (∀ c z, s.heap.get? c = some z → h'.get? c = some z) → Q (.ref (s.heap.objs.size + 1)) { s with heap := h' }) :
    wpAny (model prog w) A (call (.type "enumerate") [v]) Q E s := by
  have sz : (s.heap.push o).objs.size = s.heap.objs.size + 1 := Heap.size_push ..
  have at1 := Heap.get?_push_size (s.heap.push o) (o := { cls := .type "enumerate", data := .fields #[.none, .bool false, .ref s.heap.objs.size, rawInt 0, .none, .none] }) rfl
  rw [sz] at at1
  refine callType_new F.called_enumerate (by decide) (F.typeCall_enumerate_1 _) (F.newCall_enumerate_1 _) (fun obj => F.args_object_init_2 obj _) F.entry_enumerate_new (meets_enum1 B) ⟨hH, ?_⟩
  show _ ∧ _
  rw [sz]
  exact ⟨⟨_, at1, rfl⟩, h _ at1 (Heap.get?_push_of_some _ (Heap.get?_push_size _ B.free)) (by rw [Heap.size_push, sz]) fun c z q => Heap.get?_push_of_some _ (Heap.get?_push_of_some _ q)⟩
def iEnumA (K : PySem.W.Frag) (ta : TA) : TI := fun σ H R => ta σ H fun vs H1 => ∃ a ts, vs = [.ref a] ∧ ((SqL K H1 a ts ∧ R (Ite K a) H1) ∨ (SqT K H1 a ts ∧ R (IteT K a) H1))
theorem pi_enumA {X : Cx} {e : Expr} {ta : TA} {p pos tpos : Pos} {elts : List Expr} {kk : Nat} (hg : Gl X "enumerate") (hm : X.mg "enumerate" = none) (ha : PA X [e] ta) (hs : starEach [e] X.env = [(false, eval e X.env)] := by rfl) :
    PI X (.Tuple elts kk tpos) (.Call (.Name "enumerate" p) [e] [] pos) (iEnumA X.K ta) := by
  refine ⟨fun pins s σ H R I h => ?_⟩
  refine Call_ (ld_blt I hg hm boot_enumerate (PyProof.Rows.callWith_type1 (thn (ha.run pos pins s σ H _ I h) fun us s1 ⟨vs, H1, I1, r1, q1⟩ => ?_) hs rfl))
  obtain ⟨a, ts, ev', q1⟩ := q1
  subst ev'
  cases r1 with
  | cons r rr =>
    cases rr
    cases r
    have new2 : ∀ c, c ∈ [s1.heap.objs.size + 1, s1.heap.objs.size] → FpOk X pins H1 c := two (I1.fpOk (Nat.le_add_right _ _) (I1.hok.fresh (Nat.le_add_right _ _))) (I1.fpOk (Nat.le_refl _) (I1.hok.fresh (Nat.le_refl _)))
    rcases q1 with ⟨sq, q⟩ | ⟨sq, q⟩
    · obtain ⟨its, rv, pl, _⟩ := I1.list sq
      refine call_enumerate_list pl.isList fun h' en ti _ hk => wpAny_pyIter_enum en ?_
      have I2 : Inv X pins σ H1 { s1 with heap := h' } := I1.kept (t' := s1.toks) hk
      exact ⟨s1.heap.objs.size + 1, [s1.heap.objs.size + 1, s1.heap.objs.size], _, _, H1, rfl, I2, turn_enum a (s1.heap.objs.size + 1) s1.heap.objs.size, ⟨⟨.none, en⟩, ti, Nat.succ_ne_self _⟩, new2, q⟩
    · obtain ⟨its, rv, pl, _⟩ := I1.tuple sq
      obtain ⟨oa, hoa, _⟩ := id pl
      have la : a < s1.heap.objs.size := Heap.lt_size hoa
      refine enum1_begins (begins_tuple a its.toArray) pl fun h' en ti _ hk => wpAny_pyIter_enum en ?_
      have I2 : Inv X pins σ H1 { s1 with heap := h' } := I1.kept (t' := s1.toks) hk
      exact ⟨s1.heap.objs.size + 1, [s1.heap.objs.size + 1, s1.heap.objs.size], _, _, H1, rfl, I2, turn_enumT a (s1.heap.objs.size + 1) s1.heap.objs.size, ⟨⟨.none, en⟩, ⟨_, ti, rfl, rfl⟩, Nat.succ_ne_self _, Nat.ne_of_lt la, Nat.ne_of_gt (Nat.lt_succ_of_lt la)⟩, new2, q⟩
end DSE
end
section
set_option maxRecDepth 100000
set_option maxHeartbeats 1000000
/-! DSF: t[::-1] of a tuple. -/
namespace DSF
open PySem PySem.Spec PyProof.Rows L2 HT
section
variable {prog : Program} {w : World} {A : Around} {E : Value → Shared → Prop} {s : Shared}
theorem adj_back (n : Nat) : Builtin.Slice.sliceAdjust none none (-1) (n : Int) = ((n : Int) - 1, -1) := by
  unfold Builtin.Slice.sliceAdjust
  have h1 : ((-1 : Int) < 0) := by omega
  simp only [h1, if_true]
theorem places_back (n : Nat) : Builtin.Slice.slicePlaces ((n : Int) - 1) (-1) (-1) = n := by
  unfold Builtin.Slice.slicePlaces
  have h1 : ¬ ((-1 : Int) > 0) := by omega
  have h2 : -(-1 : Int) = 1 := by omega
  simp only [h1, if_false, h2, Int.ediv_one]
  split <;> omega
theorem applied_back {sl : Addr} {n : Nat} {u : Tok} {Q : Int × Int × Nat → Shared → Prop} (hs : s.heap.IsSliceOf sl .none .none (.int (-1) u)) (h : Q ((n : Int) - 1, -1, n) s) : wpAny (model prog w) A (Builtin.Slice.sliceApplied (.ref sl) (pure (n : Int))) Q E s := by
  obtain ⟨z, z1, z2, z3⟩ := id hs
  unfold Builtin.Slice.sliceApplied Builtin.Slice.sliceFields
  refine wpAny_bind (wpAny_bind (wpAny_field z1 z3 (x := .none) rfl (wpAny_bind (wpAny_field z1 z3 (x := .none) rfl (wpAny_bind (wpAny_field z1 z3 (x := .int (-1) u) rfl (wpAny_pure ?_)))))))
  refine wpAny_bind (slicePart_int ?_)
  show wpAny _ _ (if ((-1 : Int) == 0) = true then _ else _) _ _ s
  rw [if_neg (by decide)]
  refine wpAny_bind (slicePart_none (wpAny_bind (slicePart_none (wpAny_bind (wpAny_pure ?_)))))
  show wpAny _ _ (match Builtin.Slice.sliceAdjust none none (-1) (n : Int) with | (a, b) => pure (a, (-1 : Int), Builtin.Slice.slicePlaces a b (-1))) _ _ s
  rw [adj_back]
  show wpAny _ _ (pure ((n : Int) - 1, (-1 : Int), Builtin.Slice.slicePlaces ((n : Int) - 1) (-1) (-1))) _ _ s
  rw [places_back]
  exact wpAny_pure h
theorem pick_back (xs : Array Value) : ((List.range xs.size).filterMap fun (k : Nat) => xs[((xs.size : Int) - 1 + (k : Int) * (-1)).toNat]?).toArray = xs.toList.reverse.toArray := by
  congr 1
  have fm : ∀ (l : List Nat) (f g : Nat → Option Value), (∀ k ∈ l, f k = g k) → l.filterMap f = l.filterMap g := fun l f g => by
    induction l with
    | nil => intro _; rfl
    | cons a l ih =>
      intro h
      have h1 := h a (List.mem_cons_self ..)
      have h2 := ih fun k hk => h k (List.mem_cons_of_mem _ hk)
      simp only [List.filterMap_cons, h1, h2]
  have e : (List.range xs.size).filterMap (fun (k : Nat) => xs[((xs.size : Int) - 1 + (k : Int) * (-1)).toNat]?) = ((List.range xs.size).map fun k => xs.size - 1 - k).filterMap (xs[·]?) := by
    rw [List.filterMap_map]
    refine fm _ _ _ fun k hk => ?_
    have := List.mem_range.mp hk
    show _ = xs[xs.size - 1 - k]?
    rw [show ((xs.size : Int) - 1 + (k : Int) * (-1)).toNat = xs.size - 1 - k by omega]
  rw [e, PySem.W.krv_range, List.filterMap_reverse, PySem.W.krv_all]
theorem getItem_back {t sl : Addr} {items : Array Value} {u : Tok} {Q : Value → Shared → Prop} (ht : IsTup s.heap t items) (hs : s.heap.IsSliceOf sl .none .none (.int (-1) u))
    (h : Q (.ref s.heap.objs.size) { s with heap := s.heap.push { cls := .type "tuple", data := .seq items.toList.reverse.toArray } }) (hz : items.size ≤ sizeLine) : wpAny (model prog w) A (getItem (.ref t) (.ref sl)) Q E s := by
  have fits : sizeOk (.seq items.toList.reverse.toArray) := by
    show items.toList.reverse.toArray.size ≤ sizeLine
    rw [List.size_toArray, List.length_reverse, Array.length_toList]
    exact hz
  obtain ⟨z, z1, z2, z3⟩ := id hs
  have tySl : s.TypeIs (.ref sl) "slice" := ⟨z, z1, z2⟩
  unfold getItem
  try with_reducible refine wpAny_holding ?_
  first | refine wpAny_bind (wpAny_pure ?_) | skip
  refine wpAny_bind (wpAny_sequenceKey ht.typeIs (by decide) ?_)
  refine wpAny_bind (wpAny_callSpecial?_slot (name := Str.ofString "__getitem__") ht.typeIs PyProof.Rows.slot_tuple_getitem (wpAny_call_entry PyProof.Rows.slot_tuple_getitem ht.typeIs entry_tuple_getitem ?_ (args_tuple_getitem _ _)))
  show wpAny _ _ (Builtin.Tuple.tupleItemsOf (.ref t) >>= _) _ _ s
  refine wpAny_bind (tupleItemsOf_ ht ?_)
  refine wpAny_bind (wpAny_typeOf tySl ?_)
  rw [if_pos (by decide)]
  refine wpAny_bind (applied_back hs ?_)
  have no : ¬ ((((items.size : Int) - 1) == 0 && (-1 : Int) == 1 && items.size == items.size) = true) := by
    rw [show ((-1 : Int) == 1) = false from rfl, Bool.and_false, Bool.false_and]
    exact Bool.false_ne_true
  show wpAny _ _ (if (((items.size : Int) - 1) == 0 && (-1 : Int) == 1 && items.size == items.size) = true then _ else _) _ _ s
  rw [if_neg no, pick_back]
  first
    | exact wpAny_bind (m := Builtin.Tuple.tupleExact _) (wpAny_newObj_type (wpAny_pure ⟨_, rfl, wpAny_pure h⟩) fits)
    | exact wpAny_bind (m := Builtin.Tuple.tupleExact _) (wpAny_newObj_type (wpAny_bind (wpAny_pure (wpAny_pure ⟨_, rfl, wpAny_pure h⟩))) fits)
    | exact wpAny_bind (wpAny_bind (m := Builtin.Tuple.tupleExact _) (wpAny_newObj_type (wpAny_pure (wpAny_pure ⟨_, rfl, wpAny_pure h⟩)) fits))
    | exact wpAny_bind (wpAny_bind (m := Builtin.Tuple.tupleExact _) (wpAny_newObj_type (wpAny_pure ⟨_, rfl, wpAny_pure h⟩) fits))
end
/-- x[::-1], x a list or a tuple -/
def tRevA (K : PySem.W.Frag) (te : TE) : TE := fun σ H Q => te σ H fun x H1 => ∃ a xs, x = .ref a ∧ ((SqL K H1 a xs ∧ ∀ p, H1 p = none → Q (.ref p) (upd H1 p (.lst xs.reverse))) ∨ (SqT K H1 a xs ∧ DS.NewT H1 Q xs.reverse))
theorem pe_revA {X : Cx} {e : Expr} {te : TE} {k : Nat} {p1 p2 p3 pos : Pos} (he : PE X e te) : PE X (.Subscript e (.Slice none none (some (.UnaryOp .USub (.Constant (.int 1) k p1) p2)) p3) pos) (tRevA X.K te) := by
  refine ⟨fun pins s σ H Q I h => ?_⟩
  refine Subscript_ (thn (he.run pins s σ H _ I h) fun v s1 ⟨x, H1, I1, r1, q1⟩ => ?_)
  obtain ⟨a, xs, ex, q⟩ := q1
  subst ex
  cases r1
  have step : PO X (some (.UnaryOp .USub (.Constant (.int 1) k p1) p2)) (tPart (tUn (rU fun i => .int (-i)) (tC (.int 1)))) := po_some (pe_un un_neg pe_int)
  refine wpAny_Slice (thn (po_none.run pins s1 σ H1 (fun o H2 => o = none ∧ H2 = H1) I1 ⟨rfl, rfl⟩) fun vl s2 ⟨l, H2, I2, pl, el, e2⟩ => ?_)
  subst el e2
  refine thn (po_none.run pins s2 σ H2 (fun o H3 => o = none ∧ H3 = H2) I2 ⟨rfl, rfl⟩) fun vu s3 ⟨u, H3, I3, pu, eu, e3⟩ => ?_
  subst eu e3
  refine thn (step.run pins s3 σ H3 (fun o H4 => o = some (-1) ∧ H4 = H3) I3 ⟨1, rfl, -1, rfl, rfl, rfl⟩) fun vs s4 ⟨o, H4, I4, ps, eo, e4⟩ => ?_
  subst eo e4
  have I5 : Inv X pins σ H4 { s4 with heap := s4.heap.push { cls := .type "slice", data := .fields #[vl, vu, vs] } } := I4.kept (t' := s4.toks) fun b ob q => Heap.get?_push_of_some _ q
  show wpAny (model X.prog X.w) X.A (subscriptTail e (.Slice none none (some (.UnaryOp .USub (.Constant (.int 1) k p1) p2)) p3) (.ref a) (.ref s4.heap.objs.size)) (EP X pins σ Q) X.xe { s4 with heap := s4.heap.push { cls := .type "slice", data := .fields #[vl, vu, vs] } }
  rcases q with ⟨sq, q⟩ | ⟨sq, q⟩
  · obtain ⟨its, r, pl2, hz⟩ := I5.list sq
    have hl := r.length
    refine tail_any (ops := [.ref a, .ref s4.heap.objs.size]) pl2.isList.typeIs (PySem.slot_list_getitem.lookup) ?_ (by with_unfolding_all rfl)
    refine wpAny_getItem_list_slice pl2.isList (Heap.IsSliceOf.new _ vl vu vs) pl pu ps (by decide) ?_ (by rw [List.size_toArray]; omega)
    rw [PySem.W.krv_pick]
    exact ⟨.ref _, _, I5.laid (t' := s4.toks) (o := .lst xs.reverse) (fun b ob q => Heap.get?_push_of_some _ q) (Nat.le_refl _) ⟨by rw [List.length_reverse]; exact hz, _, 0, r.reverse, Heap.get?_push_size _ rfl⟩, rfl, q _ (I5.hok.fresh (Nat.le_refl _))⟩
  · obtain ⟨its, r, pt, hz⟩ := I5.tuple sq
    have hl := r.length
    cases pl
    cases pu
    cases ps
    refine tail_any (ops := [.ref a, .ref s4.heap.objs.size]) (IsTup.typeIs pt) (PyProof.Rows.slot_tuple_getitem.lookup) ?_ (by with_unfolding_all rfl)
    refine getItem_back pt (Heap.IsSliceOf.new _ _ _ _) ?_ (by rw [List.size_toArray]; omega)
    exact DS.laid_tup I5 r.reverse (by rw [List.length_reverse]; exact hz) q
end DSF
end
section
set_option maxRecDepth 100000
set_option maxHeartbeats 1000000
/-! DS1: data in place of addresses: what stands for what, the state of a body, how it goes on. -/
namespace DS
open PySem PySem.Spec PyProof.Rows L2

/-! ### data -/
/-- a built-in type -/
inductive TyN where
  | non | bl | int | str | lst | tup | dct
  deriving DecidableEq
def TyN.name : TyN → String
  | .non => "NoneType" | .bl => "bool" | .int => "int" | .str => "str" | .lst => "list" | .tup => "tuple" | .dct => "dict"
inductive D where
  | non | bl (b : Bool) | int (i : Int) | str (x : Str)
  | lst (xs : List D) | tup (xs : List D)
  | ins (c : Str) (fs : List Str) (xs : List D)
  | dk (ks : List Key) (xs : List D)
  | dt (ks : List (List Key)) (xs : List D)
  | ty (n : TyN) | cls (c : Str)
  | scr (ns : List Int)
  | pen
  | exc (c : Str) (fs : List Str) (xs : List D)
  | par (xs : List D)

abbrev FS := Addr → Prop
abbrev KF := PySem.W.Frag
def KL (K : KF) (a : Addr) (vs : List V) : Prop :=
  ∃ (o : Obj) (its : Array Value) (n : Nat), K.lookup a = some o ∧ o.cls = .type "list" ∧ o.dict = none ∧ o.data = .seq its n ∧ its.size ≤ sizeLine ∧ Vals vs its.toList
def KT (K : KF) (a : Addr) (vs : List V) : Prop :=
  ∃ (o : Obj) (its : Array Value) (n : Nat), K.lookup a = some o ∧ o.cls = .type "tuple" ∧ o.data = .seq its n ∧ its.size ≤ sizeLine ∧ Vals vs its.toList
def RL (F : FS) (H : Hp) (a : Addr) (vs : List V) : Prop := F a ∧ H a = some (.lst vs)
def RT (F : FS) (H : Hp) (a : Addr) (vs : List V) : Prop := F a ∧ ∃ o : Obj, H a = some (.frz o (.tup vs)) ∧ o.dict = none
theorem RL.sq {K : KF} {F : FS} {H : Hp} {a : Addr} {vs : List V} (h : RL F H a vs) : SqL K H a vs := .inl (.inl h.2)
theorem RT.sq {K : KF} {F : FS} {H : Hp} {a : Addr} {vs : List V} (h : RT F H a vs) : SqT K H a vs := let ⟨_, o, e, _⟩ := h; .inl (.inr ⟨o, e⟩)

/-- a caught exception of the class at C, its dict at dx -/
def XO (C a dx : Addr) : HO := .ext fun h => ∃ (oe : Obj) (vs : Array Value), h.get? a = some oe ∧ oe.cls = .ref C ∧ oe.dict = some dx ∧ oe.data = .fields vs
mutual
/-- v stands for the datum d, by frozen objects -/
inductive Rep (K : KF) (pa : Option Addr) (F : FS) (H : Hp) : V → D → Prop
  | non : Rep K pa F H .non .non
  | bl (b : Bool) : Rep K pa F H (.bl b) (.bl b)
  | int (i : Int) : Rep K pa F H (.int i) (.int i)
  | str (x : Str) : Rep K pa F H (.str x) (.str x)
  | lst {a : Addr} {vs : List V} {ds : List D} : RL F H a vs → RepAll K pa F H vs ds → Rep K pa F H (.ref a) (.lst ds)
  | tup {a : Addr} {vs : List V} {ds : List D} : RT F H a vs → RepAll K pa F H vs ds → Rep K pa F H (.ref a) (.tup ds)
  | ins {a dx : Addr} {c : Str} {gs : List (Str × V)} {fs : List Str} {ds : List D} : F a → H a = some (.ins (He.ga K c) dx gs) → gs.map (·.1) = fs → RepAll K pa F H (gs.map (·.2)) ds → Rep K pa F H (.ref a) (.ins c fs ds)
  | dk {a : Addr} {kvs : List (Key × V)} {ks : List Key} {ds : List D} : F a → H a = some (.dK kvs) → kvs.map (·.1) = ks → RepAll K pa F H (kvs.map (·.2)) ds → Rep K pa F H (.ref a) (.dk ks ds)
  | dt {a : Addr} {kvs : List (List Key × V)} {ks : List (List Key)} {ds : List D} : F a → H a = some (.dT kvs) → kvs.map (·.1) = ks → RepAll K pa F H (kvs.map (·.2)) ds → Rep K pa F H (.ref a) (.dt ks ds)
  | ty (n : TyN) : Rep K pa F H (.ty n.name) (.ty n)
  | scr {a : Addr} {ns : List Int} : ((F a ∧ Rd H a (.lst (ns.map V.int))) ∨ KL K a (ns.map V.int)) → Rep K pa F H (.ref a) (.scr ns)
  | cls (c : Str) : Rep K pa F H (.ref (He.ga K c)) (.cls c)
  | pen {a : Addr} : pa = some a → Rep K pa F H (.ref a) .pen
  | exc {a dx : Addr} {c : Str} {gs : List (Str × V)} {fs : List Str} {ds : List D} : F a → H a = some (XO (He.ga K c) a dx) → F dx → H dx = some (.xd gs) → gs.map (·.1) = fs → RepAll K pa F H (gs.map (·.2)) ds → Rep K pa F H (.ref a) (.exc c fs ds)
  | par {a : Addr} {vs : List V} {ds : List D} : F a → H a = some (.tup vs) → RepAll K pa F H vs ds → Rep K pa F H (.ref a) (.par ds)
inductive RepAll (K : KF) (pa : Option Addr) (F : FS) (H : Hp) : List V → List D → Prop
  | nil : RepAll K pa F H [] []
  | cons {v : V} {vs : List V} {d : D} {ds : List D} : Rep K pa F H v d → RepAll K pa F H vs ds → RepAll K pa F H (v :: vs) (d :: ds)
end

/-- more is frozen, what is frozen stays -/
structure Ext (F : FS) (H : Hp) (F' : FS) (H' : Hp) : Prop where
  sub : ∀ a, F a → F' a
  keep : ∀ a o, F a → H a = some o → H' a = some o
theorem Ext.refl (F : FS) (H : Hp) : Ext F H F H := ⟨fun _ h => h, fun _ _ _ h => h⟩
theorem Ext.trans {F F1 F2 : FS} {H H1 H2 : Hp} (a : Ext F H F1 H1) (b : Ext F1 H1 F2 H2) : Ext F H F2 H2 :=
  ⟨fun x h => b.sub x (a.sub x h), fun x o h e => b.keep x o (a.sub x h) (a.keep x o h e)⟩
theorem Ext.rd {F F' : FS} {H H' : Hp} (e : Ext F H F' H') {a : Addr} {u : HO} (f : F a) (r : Rd H a u) : Rd H' a u :=
  r.elim (fun h => .inl (e.keep a _ f h)) fun ⟨o, h⟩ => .inr ⟨o, e.keep a _ f h⟩
theorem RL.ext {F F' : FS} {H H' : Hp} (e : Ext F H F' H') {a : Addr} {vs : List V} (h : RL F H a vs) : RL F' H' a vs :=
  ⟨e.sub a h.1, e.keep _ _ h.1 h.2⟩
theorem RT.ext {F F' : FS} {H H' : Hp} (e : Ext F H F' H') {a : Addr} {vs : List V} (h : RT F H a vs) : RT F' H' a vs := let ⟨f, o, q, d⟩ := h; ⟨e.sub a f, o, e.keep _ _ f q, d⟩
section
variable {K : KF} {pa : Option Addr} {F F' : FS} {H H' : Hp}
mutual
theorem Rep.ext (e : Ext F H F' H') : ∀ (d : D) {v : V}, Rep K pa F H v d → Rep K pa F' H' v d
  | .non, _, h => by cases h; exact .non
  | .bl _, _, h => by cases h; exact .bl _
  | .int _, _, h => by cases h; exact .int _
  | .str _, _, h => by cases h; exact .str _
  | .lst ds, _, h => by cases h with | lst a b => exact .lst (a.ext e) (RepAll.ext e ds b)
  | .tup ds, _, h => by cases h with | tup a b => exact .tup (a.ext e) (RepAll.ext e ds b)
  | .ins _ _ ds, _, h => by cases h with | ins f a n b => exact .ins (e.sub _ f) (e.keep _ _ f a) n (RepAll.ext e ds b)
  | .dk _ ds, _, h => by cases h with | dk f a n b => exact .dk (e.sub _ f) (e.keep _ _ f a) n (RepAll.ext e ds b)
  | .dt _ ds, _, h => by cases h with | dt f a n b => exact .dt (e.sub _ f) (e.keep _ _ f a) n (RepAll.ext e ds b)
  | .ty _, _, h => by cases h; exact .ty _
  | .cls _, _, h => by cases h; exact .cls _
  | .scr _, _, h => by cases h with | scr a => exact .scr (a.elim (fun a => .inl ⟨e.sub _ a.1, e.rd a.1 a.2⟩) .inr)
  | .pen, _, h => by cases h with | pen a => exact .pen a
  | .exc _ _ ds, _, h => by cases h with | exc f a g x n b => exact .exc (e.sub _ f) (e.keep _ _ f a) (e.sub _ g) (e.keep _ _ g x) n (RepAll.ext e ds b)
  | .par ds, _, h => by cases h with | par f a b => exact .par (e.sub _ f) (e.keep _ _ f a) (RepAll.ext e ds b)
theorem RepAll.ext (e : Ext F H F' H') : ∀ (ds : List D) {vs : List V}, RepAll K pa F H vs ds → RepAll K pa F' H' vs ds
  | [], _, h => by cases h; exact .nil
  | d :: ds, _, h => by cases h with | cons a b => exact .cons (Rep.ext e d a) (RepAll.ext e ds b)
end
theorem RepAll.len : ∀ {vs : List V} {ds : List D}, RepAll K pa F H vs ds → vs.length = ds.length
  | _, _, .nil => rfl
  | _, _, .cons _ t => congrArg Nat.succ t.len
theorem RepAll.get : ∀ {vs : List V} {ds : List D} {i : Nat} {v : V}, RepAll K pa F H vs ds → vs[i]? = some v → ∃ d, ds[i]? = some d ∧ Rep K pa F H v d
  | _, _, _, _, .nil, e => by simp at e
  | _, _, 0, _, .cons r _, e => by simp at e; subst e; exact ⟨_, rfl, r⟩
  | _, _, i + 1, v, .cons _ t, e => by
    obtain ⟨d, h1, h2⟩ := RepAll.get (i := i) (v := v) t (by simpa using e)
    exact ⟨d, by simpa using h1, h2⟩
theorem RepAll.get' : ∀ {vs : List V} {ds : List D} {i : Nat} {d : D}, RepAll K pa F H vs ds → ds[i]? = some d → ∃ v, vs[i]? = some v ∧ Rep K pa F H v d
  | _, _, _, _, .nil, e => by simp at e
  | _, _, 0, _, .cons r _, e => by simp at e; subst e; exact ⟨_, rfl, r⟩
  | _, _, i + 1, v, .cons _ t, e => by
    obtain ⟨d, h1, h2⟩ := RepAll.get' (i := i) (d := v) t (by simpa using e)
    exact ⟨d, by simpa using h1, h2⟩
theorem RepAll.append : ∀ {vs us : List V} {ds es : List D}, RepAll K pa F H vs ds → RepAll K pa F H us es → RepAll K pa F H (vs ++ us) (ds ++ es)
  | _, _, _, _, .nil, s => s
  | _, _, _, _, .cons r t, s => .cons r (t.append s)
theorem RepAll.set {v : V} {d : D} (r : Rep K pa F H v d) : ∀ {vs : List V} {ds : List D} (i : Nat), RepAll K pa F H vs ds → RepAll K pa F H (vs.set i v) (ds.set i d)
  | _, _, _, .nil => .nil
  | _, _, 0, .cons _ t => .cons r t
  | _, _, i + 1, .cons q t => .cons q (RepAll.set r i t)
theorem RepAll.take : ∀ {vs : List V} {ds : List D} (n : Nat), RepAll K pa F H vs ds → RepAll K pa F H (vs.take n) (ds.take n)
  | _, _, 0, _ => .nil
  | _, _, _ + 1, .nil => .nil
  | _, _, n + 1, .cons r t => .cons r (t.take n)
theorem RepAll.drop : ∀ {vs : List V} {ds : List D} (n : Nat), RepAll K pa F H vs ds → RepAll K pa F H (vs.drop n) (ds.drop n)
  | _, _, 0, r => r
  | _, _, _ + 1, .nil => .nil
  | _, _, n + 1, .cons _ t => t.drop n
theorem RepAll.eraseIdx : ∀ {vs : List V} {ds : List D} (n : Nat), RepAll K pa F H vs ds → RepAll K pa F H (vs.eraseIdx n) (ds.eraseIdx n)
  | _, _, _, .nil => .nil
  | _, _, 0, .cons _ t => t
  | _, _, n + 1, .cons r t => .cons r (t.eraseIdx n)
theorem RepAll.reverse {vs : List V} {ds : List D} (h : RepAll K pa F H vs ds) : RepAll K pa F H vs.reverse ds.reverse := by
  induction vs generalizing ds with
  | nil => cases h; exact .nil
  | cons v vs ih =>
    cases h with
    | cons r t => rw [List.reverse_cons, List.reverse_cons]; exact (ih t).append (.cons r .nil)
theorem RepAll.dropLast {vs : List V} {ds : List D} (h : RepAll K pa F H vs ds) : RepAll K pa F H vs.dropLast ds.dropLast := by
  rw [List.dropLast_eq_take, List.dropLast_eq_take, ← h.len]; exact h.take _
theorem RepAll.rep {vs : List V} {ds : List D} (h : RepAll K pa F H vs ds) : ∀ k : Nat, RepAll K pa F H (List.replicate k vs).flatten (List.replicate k ds).flatten
  | 0 => .nil
  | k + 1 => by
    rw [List.replicate_succ, List.replicate_succ, List.flatten_cons, List.flatten_cons]
    exact h.append (RepAll.rep h k)
theorem RepAll.ints {ns : List Int} : RepAll K pa F H (ns.map V.int) (ns.map D.int) := by
  induction ns with
  | nil => exact .nil
  | cons n ns ih => exact .cons (.int n) ih
theorem RepAll.ints_of : ∀ {ns : List Int} {vs : List V}, RepAll K pa F H vs (ns.map D.int) → vs = ns.map V.int
  | [], _, h => by cases h; rfl
  | n :: ns, _, h => by
    cases h with
    | cons r t => cases r; rw [RepAll.ints_of t]; rfl
theorem RepAll.strs_of : ∀ {ns : List Str} {vs : List V}, RepAll K pa F H vs (ns.map D.str) → vs = ns.map V.str
  | [], _, h => by cases h; rfl
  | n :: ns, _, h => by
    cases h with
    | cons r t => cases r; rw [RepAll.strs_of t]; rfl
theorem RepAll.bls_of : ∀ {ns : List Bool} {vs : List V}, RepAll K pa F H vs (ns.map D.bl) → vs = ns.map V.bl
  | [], _, h => by cases h; rfl
  | n :: ns, _, h => by
    cases h with
    | cons r t => cases r; rw [RepAll.bls_of t]; rfl

/-- v shows d now: what is read off it at once (its own object may be one that is still written) -/
def Vw (K : KF) (pa : Option Addr) (F : FS) (H : Hp) (v : V) : D → Prop
  | .lst ds => ∃ a vs, v = .ref a ∧ H a = some (.lst vs) ∧ RepAll K pa F H vs ds
  | .ins c fs ds => ∃ a dx gs, v = .ref a ∧ H a = some (.ins (He.ga K c) dx gs) ∧ gs.map (·.1) = fs ∧ RepAll K pa F H (gs.map (·.2)) ds
  | .dk ks ds => ∃ a kvs, v = .ref a ∧ H a = some (.dK kvs) ∧ kvs.map (·.1) = ks ∧ RepAll K pa F H (kvs.map (·.2)) ds
  | .dt ks ds => ∃ a kvs, v = .ref a ∧ H a = some (.dT kvs) ∧ kvs.map (·.1) = ks ∧ RepAll K pa F H (kvs.map (·.2)) ds
  | d => Rep K pa F H v d
theorem Rep.vw {v : V} {d : D} (h : Rep K pa F H v d) : Vw K pa F H v d := by
  cases h with
  | non => exact .non
  | bl b => exact .bl b
  | int i => exact .int i
  | str x => exact .str x
  | lst a b => exact ⟨_, _, rfl, a.2, b⟩
  | tup a b => exact .tup a b
  | ins f a n b => exact ⟨_, _, _, rfl, a, n, b⟩
  | dk f a n b => exact ⟨_, _, rfl, a, n, b⟩
  | dt f a n b => exact ⟨_, _, rfl, a, n, b⟩
  | ty n => exact .ty n
  | cls c => exact .cls c
  | scr a => exact .scr a
  | pen a => exact .pen a
  | exc f a g x n b => exact .exc f a g x n b
  | par f a b => exact .par f a b

/-- an object of this body's own at a, which shows d -/
def OwnO (K : KF) (pa : Option Addr) (F : FS) (H : Hp) (a : Addr) : D → Prop
  | .lst ds => ∃ vs, H a = some (.lst vs) ∧ RepAll K pa F H vs ds
  | .dk ks ds => ∃ kvs, H a = some (.dK kvs) ∧ kvs.map (·.1) = ks ∧ RepAll K pa F H (kvs.map (·.2)) ds
  | .dt ks ds => ∃ kvs, H a = some (.dT kvs) ∧ kvs.map (·.1) = ks ∧ RepAll K pa F H (kvs.map (·.2)) ds
  | .ins c fs ds => ∃ dx gs, H a = some (.ins (He.ga K c) dx gs) ∧ gs.map (·.1) = fs ∧ RepAll K pa F H (gs.map (·.2)) ds
  | _ => False
theorem OwnO.vw {a : Addr} {d : D} (h : OwnO K pa F H a d) : Vw K pa F H (.ref a) d := by
  cases d with
  | lst ds => obtain ⟨vs, h1, h2⟩ := h; exact ⟨a, vs, rfl, h1, h2⟩
  | dk ks ds => obtain ⟨kvs, h1, h2, h3⟩ := h; exact ⟨a, kvs, rfl, h1, h2, h3⟩
  | dt ks ds => obtain ⟨kvs, h1, h2, h3⟩ := h; exact ⟨a, kvs, rfl, h1, h2, h3⟩
  | ins c fs ds => obtain ⟨dx, gs, h1, h2, h3⟩ := h; exact ⟨a, dx, gs, rfl, h1, h2, h3⟩
  | _ => exact False.elim h
theorem OwnO.trk {a : Addr} {d : D} (h : OwnO K pa F H a d) : H a ≠ none := by
  cases d with
  | lst ds => obtain ⟨vs, h1, h2⟩ := h; rw [h1]; simp
  | dk ks ds => obtain ⟨kvs, h1, h2, h3⟩ := h; rw [h1]; simp
  | dt ks ds => obtain ⟨kvs, h1, h2, h3⟩ := h; rw [h1]; simp
  | ins c fs ds => obtain ⟨dx, gs, h1, h2, h3⟩ := h; rw [h1]; simp
  | _ => exact False.elim h
theorem OwnO.ext (e : Ext F H F' H') {a : Addr} {d : D} (ha : H' a = H a) (h : OwnO K pa F H a d) : OwnO K pa F' H' a d := by
  cases d with
  | lst ds => obtain ⟨vs, h1, h2⟩ := h; exact ⟨vs, ha.trans h1, h2.ext e⟩
  | dk ks ds => obtain ⟨kvs, h1, h2, h3⟩ := h; exact ⟨kvs, ha.trans h1, h2, h3.ext e⟩
  | dt ks ds => obtain ⟨kvs, h1, h2, h3⟩ := h; exact ⟨kvs, ha.trans h1, h2, h3.ext e⟩
  | ins c fs ds => obtain ⟨dx, gs, h1, h2, h3⟩ := h; exact ⟨dx, gs, ha.trans h1, h2, h3.ext e⟩
  | _ => exact False.elim h
/-- a is frozen from now on -/
def frz1 (F : FS) (a : Addr) : FS := fun b => F b ∨ b = a
theorem Ext.frz1 (F : FS) (H : Hp) (a : Addr) : Ext F H (frz1 F a) H := ⟨fun _ h => .inl h, fun _ _ _ h => h⟩
theorem OwnO.rep {a : Addr} {d : D} (h : OwnO K pa F H a d) : Rep K pa (DS.frz1 F a) H (.ref a) d := by
  have e := Ext.frz1 F H a
  cases d with
  | lst ds => obtain ⟨vs, h1, h2⟩ := h; exact .lst ⟨.inr rfl, h1⟩ (h2.ext e)
  | dk ks ds => obtain ⟨kvs, h1, h2, h3⟩ := h; exact .dk (.inr rfl) h1 h2 (h3.ext e)
  | dt ks ds => obtain ⟨kvs, h1, h2, h3⟩ := h; exact .dt (.inr rfl) h1 h2 (h3.ext e)
  | ins c fs ds => obtain ⟨dx, gs, h1, h2, h3⟩ := h; exact .ins (.inr rfl) h1 h2 (h3.ext e)
  | _ => exact False.elim h
end

/-! ### the state of a body -/
/-- at the entry: what was frozen, the heap; where the pen lies -/
structure Gd where
  K : KF
  F0 : FS
  H0 : Hp
  pa : Option Addr
/-- the pen: cells, how many were begun (at most n), what is left of a great one -/
def PenOk (pa : Option Addr) (F : FS) (H : Hp) (n : Nat) : Prop := match pa with
  | none => True
  | some p => ¬ F p ∧ ∃ (c : Addr) (ns : List Int) (at_ rest : Int), H p = some (.lst [.ref c, .int at_, .int rest]) ∧ F c ∧ Rd H c (.lst (ns.map V.int)) ∧ ns.length ≤ 63 ∧ 0 ≤ at_ ∧ at_ ≤ n ∧ 0 ≤ rest
/-- the tables of the defs' code objects, and what lambdas made there are called -/
def TK (K : KF) : List (Addr × Str) := K.filterMap fun p => match p.2 with
  | ⟨.type "code", _, .fields vs, _⟩ => (match (vs[11]? : Option Value), (vs[1]? : Option Value) with
    | some (.ref P), some (.str q _) => some (P, q ++ ".<locals>." ++ "<lambda>")
    | _, _ => none)
  | _ => none
def TabsF (T : List (Addr × Str)) (F : FS) (H : Hp) : Prop := ∀ p ∈ T, ∃ ps : Array Value, H p.1 = some (.tbl ps) ∧ ¬ F p.1 ∧ TriplesOk ps.toList ∧ ∀ (pos : Pos) (cv : Value), codeAmong pos ps.toList = some cv → ∃ c, cv = .ref c ∧ F c ∧ H c = some (LamX.CodeO c p.2)
/-- neither the pen nor a table -/
structure Gd.off (G : Gd) (b : Addr) : Prop where
  pen : G.pa ≠ some b
  tab : ∀ p ∈ TK G.K, p.1 ≠ b
structure Bas (G : Gd) (F : FS) (H : Hp) (n : Nat) : Prop where
  sub : ∀ a, G.F0 a → F a
  new : ∀ a, F a → G.F0 a ∨ G.H0 a = none
  old : ∀ b o, G.H0 b = some o → G.off b → H b = some o
  trk : ∀ a, F a → H a ≠ none
  pen : PenOk G.pa F H n
  tab : TabsF (TK G.K) F H
structure Own (G : Gd) (F : FS) (H : Hp) (a : Addr) (d : D) : Prop where
  nf : ¬ F a
  n0 : G.H0 a = none
  np : G.off a
  at_ : OwnO G.K G.pa F H a d
/-- a slot: none (nothing known), its datum: of one's own (written still) or frozen -/
structure Dst where
  sl : List (Option (Bool × D))
  n : Nat
def Dst.put (δ : Dst) (i : Nat) (x : Option (Bool × D)) : Dst := ⟨δ.sl.set i x, δ.n⟩
structure Hold (G : Gd) (F : FS) (δ : Dst) (σ : L2.St) (H : Hp) : Prop where
  bas : Bas G F H δ.n
  len : δ.sl.length = σ.length
  fro : ∀ (i : Nat) (d : D), δ.sl[i]? = some (some (false, d)) → ∃ v, σ[i]? = some (some v) ∧ Rep G.K G.pa F H v d
  own : ∀ (i : Nat) (d : D), δ.sl[i]? = some (some (true, d)) → ∃ a, σ[i]? = some (some (.ref a)) ∧ Own G F H a d
  dis : ∀ (i j : Nat) (d e : D) (a : Addr), i ≠ j → δ.sl[i]? = some (some (true, d)) → δ.sl[j]? = some (some (true, e)) → σ[i]? = some (some (.ref a)) → σ[j]? = some (some (.ref a)) → False
/-- a value of one's own that no slot holds, or a frozen one -/
def Res (G : Gd) (F : FS) (H : Hp) (σ : L2.St) (δ : Dst) (v : V) (r : Bool × D) : Prop :=
  match r.1 with
  | true => ∃ a, v = .ref a ∧ Own G F H a r.2 ∧ ∀ (i : Nat) (e : D), δ.sl[i]? = some (some (true, e)) → σ[i]? = some (some (V.ref a)) → False
  | false => Rep G.K G.pa F H v r.2
/-- what an operand stands for: a slot's datum, whenever it is read; or a frozen datum -/
inductive Hd where
  | sl (i : Nat) | dt (d : D)
def HdOk (G : Gd) (F : FS) (H : Hp) (σ : L2.St) (v : V) : Hd → Prop
  | .sl i => σ[i]? = some (some v)
  | .dt d => Rep G.K G.pa F H v d
def Hd.get (δ : Dst) : Hd → Option D
  | .sl i => match δ.sl[i]? with
    | some (some (_, d)) => some d
    | _ => none
  | .dt d => some d
section
variable {G : Gd} {F F' : FS} {H H' : Hp} {σ : L2.St} {δ δ' : Dst}
theorem HdOk.ext (e : Ext F H F' H') {v : V} {h : Hd} (k : HdOk G F H σ v h) : HdOk G F' H' σ v h := by
  cases h with
  | sl i => exact k
  | dt d => exact Rep.ext e d k
theorem HdOk.vw (I : Hold G F δ σ H) {v : V} {h : Hd} {d : D} (k : HdOk G F H σ v h) (g : h.get δ = some d) : Vw G.K G.pa F H v d := by
  cases h with
  | dt e =>
    have e1 : e = d := Option.some.inj g
    subst e1
    exact Rep.vw k
  | sl i =>
    have g2 : (match δ.sl[i]? with
      | some (some (_, d)) => some d
      | _ => none) = some d := g
    split at g2
    · rename_i b d' q
      have e1 : d' = d := Option.some.inj g2
      subst e1
      cases b with
      | false =>
        obtain ⟨v', h1, h2⟩ := I.fro i _ q
        have e2 := Option.some.inj (Option.some.inj (h1.symm.trans k))
        subst e2
        exact h2.vw
      | true =>
        obtain ⟨a, h1, h2⟩ := I.own i _ q
        have e2 := Option.some.inj (Option.some.inj (h1.symm.trans k))
        subst e2
        exact h2.at_.vw
    · cases g2
/-- a new address -/
theorem TabsF.trk {T : List (Addr × Str)} (h : TabsF T F H) {p : Addr × Str} (hp : p ∈ T) : H p.1 ≠ none ∧ ¬ F p.1 := by
  obtain ⟨ps, h1, h2, _⟩ := h p hp
  exact ⟨by rw [h1]; simp, h2⟩
theorem TabsF.ext {T : List (Addr × Str)} (e : Ext F H F' H') (hp : ∀ p ∈ T, H' p.1 = H p.1 ∧ ¬ F' p.1) (h : TabsF T F H) : TabsF T F' H' := fun p m => by
  obtain ⟨ps, h1, _, h3, h4⟩ := h p m
  obtain ⟨p1, p2⟩ := hp p m
  refine ⟨ps, p1.trans h1, p2, h3, fun pos cv hc => ?_⟩
  obtain ⟨c, a, b, d⟩ := h4 pos cv hc
  exact ⟨c, a, e.sub c b, e.keep c _ b d⟩
theorem Bas.free (B : Bas G F H δ.n) {p : Addr} (hp : H p = none) : G.H0 p = none ∧ G.off p ∧ ¬ F p := by
  have np1 : G.pa ≠ some p := fun e => by
    have q := B.pen
    unfold PenOk at q
    rw [e] at q
    obtain ⟨_, _, _, _, _, q, _⟩ := q
    rw [hp] at q; cases q
  have np : G.off p := ⟨np1, fun q m z => (B.tab.trk m).1 (by rw [z]; exact hp)⟩
  refine ⟨?_, np, fun f => B.trk p f hp⟩
  cases e : G.H0 p with
  | none => rfl
  | some o => have := B.old p o e np; rw [hp] at this; cases this
theorem PenOk.ext {pa : Option Addr} {n : Nat} (e : Ext F H F' H') (hp : ∀ p, pa = some p → H' p = H p ∧ ¬ F' p) (h : PenOk pa F H n) : PenOk pa F' H' n := by
  cases pa with
  | none => trivial
  | some p =>
    obtain ⟨nf, c, ns, a, r, h1, h2, h3, h4⟩ := h
    obtain ⟨p1, p2⟩ := hp p rfl
    exact ⟨p2, c, ns, a, r, p1.trans h1, e.sub c h2, e.rd h2 h3, h4⟩
theorem ext_upd {p : Addr} {o : HO} (B : ∀ a, F a → H a ≠ none) (hp : H p = none) : Ext F H F (upd H p o) :=
  ⟨fun _ h => h, fun a u f e => by rw [upd_ne (fun z => by subst z; exact B _ f hp)]; exact e⟩
theorem Bas.alloc (B : Bas G F H δ.n) {p : Addr} {o : HO} (hp : H p = none) : Bas G F (upd H p o) δ.n := by
  obtain ⟨p0, np, nf⟩ := B.free hp
  have e : Ext F H F (upd H p o) := ext_upd B.trk hp
  refine ⟨B.sub, B.new, fun b u h1 h2 => ?_, fun a f => ?_, B.pen.ext e fun q hq => ⟨upd_ne fun z => ?_, fun f => ?_⟩, B.tab.ext e fun q hq => ⟨upd_ne fun z => np.tab q hq z, (B.tab.trk hq).2⟩⟩
  · rw [upd_ne (fun z => by subst z; rw [p0] at h1; cases h1)]; exact B.old b u h1 h2
  · rw [upd_ne (fun z => by subst z; exact nf f)]; exact B.trk a f
  · subst z; exact np.pen hq
  · have q' := B.pen
    unfold PenOk at q'
    rw [hq] at q'
    exact q'.1 f
theorem Bas.frz (B : Bas G F H δ.n) {a : Addr} (h0 : G.H0 a = none) (hp : G.off a) (ht : H a ≠ none) : Bas G (frz1 F a) H δ.n := by
  refine ⟨fun b h => .inl (B.sub b h), fun b h => h.elim (B.new b) fun z => .inr (by rw [z]; exact h0), B.old, fun b h => h.elim (B.trk b) fun z => by rw [z]; exact ht, B.pen.ext (Ext.frz1 F H a) fun q hq => ⟨rfl, fun f => ?_⟩, B.tab.ext (Ext.frz1 F H a) fun q hq => ⟨rfl, fun f => f.elim (B.tab.trk hq).2 fun z => hp.tab q hq z⟩⟩
  rcases f with f | f
  · have q' := B.pen
    unfold PenOk at q'
    rw [hq] at q'
    exact q'.1 f
  · subst f; exact hp.pen hq
theorem Own.ext (e : Ext F H F' H') {a : Addr} {d : D} (ha : H' a = H a) (nf : ¬ F' a) (h : Own G F H a d) : Own G F' H' a d := ⟨nf, h.n0, h.np, h.at_.ext e ha⟩
/-- a new object: nothing else changes -/
theorem Hold.alloc (I : Hold G F δ σ H) {p : Addr} {o : HO} (hp : H p = none) : Hold G F δ σ (upd H p o) := by
  have e : Ext F H F (upd H p o) := ext_upd I.bas.trk hp
  refine ⟨I.bas.alloc hp, I.len, fun i d h => ?_, fun i d h => ?_, I.dis⟩
  · obtain ⟨v, h1, h2⟩ := I.fro i d h
    exact ⟨v, h1, h2.ext e⟩
  · obtain ⟨a, h1, h2⟩ := I.own i d h
    exact ⟨a, h1, h2.ext e (upd_ne (fun z => by subst z; exact h2.at_.trk hp)) h2.nf⟩
theorem Hold.allocE (I : Hold G F δ σ H) {p : Addr} {o : HO} (hp : H p = none) : Ext F H F (upd H p o) := ext_upd I.bas.trk hp
/-- an object that no slot owns is frozen -/
theorem Hold.frz (I : Hold G F δ σ H) {a : Addr} (h0 : G.H0 a = none) (hp : G.off a) (ht : H a ≠ none) (hn : ∀ (i : Nat) (e : D), δ.sl[i]? = some (some (true, e)) → σ[i]? = some (some (V.ref a)) → False) : Hold G (frz1 F a) δ σ H := by
  refine ⟨I.bas.frz h0 hp ht, I.len, fun i d h => ?_, fun i d h => ?_, I.dis⟩
  · obtain ⟨v, h1, h2⟩ := I.fro i d h
    exact ⟨v, h1, h2.ext (Ext.frz1 F H a)⟩
  · obtain ⟨b, h1, h2⟩ := I.own i d h
    refine ⟨b, h1, h2.ext (Ext.frz1 F H a) rfl fun f => ?_⟩
    rcases f with f | f
    · exact h2.nf f
    · subst f; exact hn i d h h1
end
/-! ### a step: nothing but own objects (and the pen) is written -/
structure Stp (G : Gd) (σ : L2.St) (δ : Dst) (F : FS) (H : Hp) (δ' : Dst) (F' : FS) (H' : Hp) : Prop where
  ext : Ext F H F' H'
  own : ∀ (i : Nat) (e : D), δ'.sl[i]? = some (some (true, e)) → ∃ e' : D, δ.sl[i]? = some (some (true, e'))
  kp : ∀ (a : Addr) (o : HO), H a = some o → G.off a → (∀ (i : Nat) (e : D), δ.sl[i]? = some (some (true, e)) → σ[i]? = some (some (V.ref a)) → False) → H' a = some o
  fz : ∀ a, F' a → F a ∨ H a = none ∨ ∃ (i : Nat) (e : D), δ.sl[i]? = some (some (true, e)) ∧ σ[i]? = some (some (V.ref a))
  trk : ∀ a, H a ≠ none → H' a ≠ none
theorem Stp.refl {G : Gd} {σ : L2.St} {δ : Dst} {F : FS} {H : Hp} : Stp G σ δ F H δ F H := ⟨Ext.refl F H, fun _ e h => ⟨e, h⟩, fun _ _ h _ _ => h, fun _ h => .inl h, fun _ h => h⟩
theorem Stp.trans {G : Gd} {σ : L2.St} {δ δ1 δ2 : Dst} {F F1 F2 : FS} {H H1 H2 : Hp} (a : Stp G σ δ F H δ1 F1 H1) (b : Stp G σ δ1 F1 H1 δ2 F2 H2) : Stp G σ δ F H δ2 F2 H2 where
  ext := a.ext.trans b.ext
  own := fun i e h => let ⟨e1, h1⟩ := b.own i e h; a.own i e1 h1
  kp := fun x o h hp hn => b.kp x o (a.kp x o h hp hn) hp fun i e q s => let ⟨e1, h1⟩ := a.own i e q; hn i e1 h1 s
  fz := fun x h => by
    rcases b.fz x h with h | h | ⟨i, e, q, s⟩
    · exact a.fz x h
    · exact .inr (.inl (Classical.byContradiction fun n => a.trk x n h))
    · obtain ⟨e1, h1⟩ := a.own i e q
      exact .inr (.inr ⟨i, e1, h1, s⟩)
  trk := fun x h => b.trk x (a.trk x h)
theorem Stp.alloc {G : Gd} {σ : L2.St} {δ : Dst} {F : FS} {H : Hp} (I : Hold G F δ σ H) {p : Addr} {o : HO} (hp : H p = none) : Stp G σ δ F H δ F (upd H p o) :=
  ⟨I.allocE hp, fun _ e h => ⟨e, h⟩, fun a u h _ _ => by rw [upd_ne (fun z => by subst z; rw [hp] at h; cases h)]; exact h, fun _ h => .inl h, fun a h => by
    rw [upd_ne (fun z => by subst z; exact h hp)]; exact h⟩
theorem Stp.frz {G : Gd} {σ : L2.St} {δ : Dst} {F : FS} {H : Hp} {a : Addr} (h : H a = none ∨ ∃ (i : Nat) (e : D), δ.sl[i]? = some (some (true, e)) ∧ σ[i]? = some (some (V.ref a))) : Stp G σ δ F H δ (frz1 F a) H :=
  ⟨Ext.frz1 F H a, fun _ e h => ⟨e, h⟩, fun _ _ h _ _ => h, fun b f => f.elim .inl fun z => by subst z; exact .inr h, fun _ h => h⟩
/-- a temporary stays through a step -/
theorem Res.step {G : Gd} {σ : L2.St} {δ δ' : Dst} {F F' : FS} {H H' : Hp} (s : Stp G σ δ F H δ' F' H') {v : V} {r : Bool × D} (k : Res G F H σ δ v r) : Res G F' H' σ δ' v r := by
  obtain ⟨b, d⟩ := r
  cases b with
  | false => exact Rep.ext s.ext d k
  | true =>
    obtain ⟨a, e, o, n⟩ := k
    have ht := o.at_.trk
    refine ⟨a, e, o.ext s.ext ?_ fun f => ?_, fun i x q z => ?_⟩
    · cases q : H a with
      | none => exact absurd q ht
      | some u => exact s.kp a u q o.np n
    · rcases s.fz a f with f | f | ⟨i, x, q, z⟩
      · exact o.nf f
      · exact ht f
      · exact n i x q z
    · obtain ⟨x1, q1⟩ := s.own i x q
      exact n i x1 q1 z

theorem Res.giveS {G : Gd} {σ : L2.St} {δ δ' : Dst} {F F' : FS} {H H' : Hp} (_ : Hold G F δ σ H) (s : Stp G σ δ F H δ' F' H') (I : Hold G F' δ' σ H') {v : V} {r : Bool × D} (k : Res G F' H' σ δ' v r) (hn : r.1 = true → ∀ a, v = .ref a → H a = none) :
    ∃ F2, Hold G F2 δ' σ H' ∧ Stp G σ δ F H δ' F2 H' ∧ Rep G.K G.pa F2 H' v r.2 := by
  obtain ⟨b, d⟩ := r
  cases b with
  | false => exact ⟨F', I, s, k⟩
  | true =>
    obtain ⟨a, e, o, n⟩ := k
    subst e
    refine ⟨frz1 F' a, I.frz o.n0 o.np o.at_.trk n, ⟨s.ext.trans (Ext.frz1 F' H' a), s.own, s.kp, fun b f => ?_, s.trk⟩, o.at_.rep⟩
    rcases f with f | f
    · exact s.fz b f
    · subst f; exact .inr (.inl (hn rfl _ rfl))
section
variable {G : Gd} {F F' : FS} {H H' : Hp} {σ : L2.St} {δ δ' : Dst}
/-- a slot's own object is frozen -/
theorem Hold.frzSlot (I : Hold G F δ σ H) {i : Nat} {d : D} (h : δ.sl[i]? = some (some (true, d))) : ∃ a, σ[i]? = some (some (.ref a)) ∧ Hold G (frz1 F a) (δ.put i (some (false, d))) σ H ∧ Stp G σ δ F H (δ.put i (some (false, d))) (frz1 F a) H ∧ Rep G.K G.pa (frz1 F a) H (.ref a) d := by
  obtain ⟨a, h1, h2⟩ := I.own i d h
  have hi : i < δ.sl.length := (List.getElem?_eq_some_iff.mp h).1
  have e := Ext.frz1 F H a
  have oth : ∀ j e, (δ.put i (some (false, d))).sl[j]? = some (some (true, e)) → j ≠ i ∧ δ.sl[j]? = some (some (true, e)) := fun j e q => by
    unfold Dst.put at q
    by_cases hj : i = j
    · subst hj; rw [List.getElem?_set_self hi] at q; cases q
    · rw [List.getElem?_set_ne hj] at q; exact ⟨fun z => hj z.symm, q⟩
  refine ⟨a, h1, ?_, ⟨e, fun j x q => ⟨x, (oth j x q).2⟩, fun _ _ h _ _ => h, fun b f => f.elim .inl fun z => by subst z; exact .inr (.inr ⟨i, d, h, h1⟩), fun _ h => h⟩, h2.at_.rep⟩
  refine ⟨I.bas.frz h2.n0 h2.np h2.at_.trk, by unfold Dst.put; simpa using I.len, fun j d' q => ?_, fun j d' q => ?_, fun j k d' e' b hjk q1 q2 => ?_⟩
  · by_cases hj : i = j
    · subst hj
      unfold Dst.put at q
      rw [List.getElem?_set_self hi] at q
      cases q
      exact ⟨.ref a, h1, h2.at_.rep⟩
    · unfold Dst.put at q
      rw [List.getElem?_set_ne hj] at q
      obtain ⟨v, q1, q2⟩ := I.fro j d' q
      exact ⟨v, q1, q2.ext e⟩
  · obtain ⟨nj, q'⟩ := oth j d' q
    obtain ⟨b, q1, q2⟩ := I.own j d' q'
    refine ⟨b, q1, q2.ext e rfl fun f => ?_⟩
    rcases f with f | f
    · exact q2.nf f
    · subst f; exact I.dis j i d' d _ nj q' h q1 h1
  · exact I.dis j k d' e' b hjk (oth j d' q1).2 (oth k e' q2).2
/-- a slot is given a value -/
theorem Hold.put (I : Hold G F δ σ H) {i : Nat} {v : V} {r : Bool × D} (k : Res G F H σ δ v r) : Hold G F (δ.put i (some r)) (σ.set i (some v)) H := by
  have hl := I.len
  by_cases hi : i < δ.sl.length
  · have hi' : i < σ.length := by omega
    have self : (δ.put i (some r)).sl[i]? = some (some r) := by unfold Dst.put; rw [List.getElem?_set_self hi]
    have oth : ∀ j, i ≠ j → (δ.put i (some r)).sl[j]? = δ.sl[j]? := fun j hj => by unfold Dst.put; rw [List.getElem?_set_ne hj]
    have sself : (σ.set i (some v))[i]? = some (some v) := List.getElem?_set_self hi'
    have soth : ∀ j, i ≠ j → (σ.set i (some v))[j]? = σ[j]? := fun j hj => List.getElem?_set_ne hj
    refine ⟨I.bas, by unfold Dst.put; simpa using hl, fun j d q => ?_, fun j d q => ?_, fun j l d e a hjl q1 q2 s1 s2 => ?_⟩
    · by_cases hj : i = j
      · subst hj
        rw [self] at q
        cases q
        exact ⟨v, sself, k⟩
      · rw [oth j hj] at q
        rw [soth j hj]
        exact I.fro j d q
    · by_cases hj : i = j
      · subst hj
        rw [self] at q
        cases q
        obtain ⟨a, e, o, _⟩ := k
        subst e
        exact ⟨a, sself, o⟩
      · rw [oth j hj] at q
        rw [soth j hj]
        exact I.own j d q
    · by_cases hj : i = j
      · subst hj
        have hl : i ≠ l := hjl
        rw [self] at q1
        cases q1
        obtain ⟨b, e1, o, n⟩ := k
        subst e1
        rw [sself] at s1
        cases s1
        rw [oth l hl] at q2
        rw [soth l hl] at s2
        exact n l e q2 s2
      · by_cases hl : i = l
        · subst hl
          rw [self] at q2
          cases q2
          obtain ⟨b, e1, o, n⟩ := k
          subst e1
          rw [sself] at s2
          cases s2
          rw [oth j hj] at q1
          rw [soth j hj] at s1
          exact n j d q1 s1
        · rw [oth j hj] at q1
          rw [oth l hl] at q2
          rw [soth j hj] at s1
          rw [soth l hl] at s2
          exact I.dis j l d e a hjl q1 q2 s1 s2
  · have e1 : δ.put i (some r) = δ := by unfold Dst.put; rw [List.set_eq_of_length_le (by omega)]
    have e2 : σ.set i (some v) = σ := List.set_eq_of_length_le (by omega)
    rw [e1, e2]
    exact I
/-- an own object is written -/
theorem Hold.write (I : Hold G F δ σ H) {i : Nat} {a : Addr} {d d' : D} {o : HO} (h : δ.sl[i]? = some (some (true, d))) (hs : σ[i]? = some (some (.ref a))) (hn : ∀ H', (∀ b, b ≠ a → H' b = H b) → H' a = some o → OwnO G.K G.pa F H' a d') :
    Hold G F (δ.put i (some (true, d'))) σ (upd H a o) ∧ Stp G σ δ F H (δ.put i (some (true, d'))) F (upd H a o) := by
  obtain ⟨a', h1, h2⟩ := I.own i d h
  have ea : a' = a := by rw [hs] at h1; cases h1; rfl
  subst ea
  have hi : i < δ.sl.length := (List.getElem?_eq_some_iff.mp h).1
  have e : Ext F H F (upd H a' o) := ⟨fun _ f => f, fun b u f q => by rw [upd_ne (fun z => by subst z; exact h2.nf f)]; exact q⟩
  have self : (δ.put i (some (true, d'))).sl[i]? = some (some (true, d')) := by unfold Dst.put; rw [List.getElem?_set_self hi]
  have oth : ∀ j, i ≠ j → (δ.put i (some (true, d'))).sl[j]? = δ.sl[j]? := fun j hj => by unfold Dst.put; rw [List.getElem?_set_ne hj]
  have own' : ∀ j x, (δ.put i (some (true, d'))).sl[j]? = some (some (true, x)) → ∃ y, δ.sl[j]? = some (some (true, y)) := fun j x q => by
    by_cases hj : i = j
    · subst hj; exact ⟨d, h⟩
    · rw [oth j hj] at q; exact ⟨x, q⟩
  refine ⟨⟨?_, by unfold Dst.put; simpa using I.len, fun j x q => ?_, fun j x q => ?_, fun j l x y b hjl q1 q2 => ?_⟩, ⟨e, own', fun b u q _ n => by rw [upd_ne (fun z => by subst z; exact n i d h hs)]; exact q, fun _ f => .inl f, fun b q => ?_⟩⟩
  · refine ⟨I.bas.sub, I.bas.new, fun b u q1 q2 => ?_, fun b f => ?_, I.bas.pen.ext e fun p hp => ⟨upd_ne fun z => ?_, fun f => ?_⟩, I.bas.tab.ext e fun p hp => ⟨upd_ne fun z => h2.np.tab p hp z, (I.bas.tab.trk hp).2⟩⟩
    · rw [upd_ne (fun z => by subst z; rw [h2.n0] at q1; cases q1)]; exact I.bas.old b u q1 q2
    · rw [upd_ne (fun z => by subst z; exact h2.nf f)]; exact I.bas.trk b f
    · subst z; exact h2.np.pen hp
    · have q' := I.bas.pen
      unfold PenOk at q'
      rw [hp] at q'
      exact q'.1 f
  · by_cases hj : i = j
    · subst hj; rw [self] at q; cases q
    · rw [oth j hj] at q
      obtain ⟨v, q1, q2⟩ := I.fro j x q
      exact ⟨v, q1, q2.ext e⟩
  · by_cases hj : i = j
    · subst hj
      rw [self] at q
      cases q
      exact ⟨a', hs, h2.nf, h2.n0, h2.np, hn _ (fun b hb => upd_ne hb) upd_same⟩
    · rw [oth j hj] at q
      obtain ⟨b, q1, q2⟩ := I.own j x q
      refine ⟨b, q1, q2.ext e (upd_ne fun z => ?_) q2.nf⟩
      subst z
      exact I.dis i j d x _ hj h q h1 q1
  · obtain ⟨y1, q1⟩ := own' j x q1
    obtain ⟨y2, q2⟩ := own' l y q2
    exact I.dis j l y1 y2 b hjl q1 q2
  · by_cases z : b = a'
    · subst z; rw [upd_same]; simp
    · rw [upd_ne z]; exact q
end

/-! ### readings over data -/
/-- an exception: its class, its fields -/
structure XD where
  c : Str
  fs : List Str
  xs : List D
abbrev EdT := XD → Nat → Prop
/-- the wish about exceptions, over data -/
def XOk (G : Gd) (E : XK) (Ed : EdT) : Prop := ∀ (x : XD) (F : FS) (H : Hp) (n : Nat) (dx : Addr) (gs : List (Str × V)), Ed x n → Bas G F H n → G.H0 dx = none → H dx = some (.xd gs) → gs.map (·.1) = x.fs → RepAll G.K G.pa F H (gs.map (·.2)) x.xs → E (.ref (He.ga G.K x.c)) (some dx) H
theorem XOk.none {G : Gd} {E : XK} : XOk G E (fun _ _ => False) := fun _ _ _ _ _ _ h => h.elim
theorem Bas.offX {G : Gd} {F : FS} {H : Hp} {n : Nat} (B : Bas G F H n) {dx : Addr} {gs : List (Str × V)} (e : H dx = some (.xd gs)) : G.off dx := by
  constructor
  · intro hp
    have q := B.pen
    unfold PenOk at q
    rw [hp] at q
    obtain ⟨_, _, _, _, _, q, _⟩ := q
    rw [q] at e
    cases e
  · intro p hp z
    obtain ⟨ps, h1, _⟩ := B.tab p hp
    rw [z, e] at h1
    cases h1
abbrev FX (α : Type) := EdT → Dst → (α → Dst → Prop) → Prop
/-- pre: the heap ahead of the step -/
abbrev Okr (β α : Type) := Gd → Hp → FS → Hp → L2.St → Dst → β → α → Prop
/-- the reading over data as a reading over the heap -/
def rdA {α β : Type} (K : KF) (E : XK) (ok : Okr β α) (f : FX α) : L2.St → Hp → (β → Hp → Prop) → Prop := fun σ H Q =>
  ∃ (G : Gd) (F : FS) (δ : Dst) (Qd : α → Dst → Prop) (Ed : EdT), G.K = K ∧ Hold G F δ σ H ∧ f Ed δ Qd ∧ XOk G E Ed ∧
    ∀ r δ' F' H' v, Qd r δ' → Hold G F' δ' σ H' → Stp G σ δ F H δ' F' H' → ok G H F' H' σ δ' v r → Q v H'
def okG : Okr V D := fun G _ F H _ _ v d => Rep G.K G.pa F H v d
def okO : Okr V (Bool × D) := fun G Hp F H σ δ v r => Res G F H σ δ v r ∧ (r.1 = true → ∀ a, v = .ref a → Hp a = none)
def okH : Okr V Hd := fun G _ F H σ _ v h => HdOk G F H σ v h
def okT : Okr Bool Bool := fun _ _ _ _ _ _ b c => b = c
def okA : Okr (List V) (List D) := fun G _ F H _ _ vs ds => RepAll G.K G.pa F H vs ds
def okHs : Okr (List V) (List Hd) := fun G _ F H σ _ vs hs => Paired (fun v h => HdOk G F H σ v h) vs hs
/-- an expression: its value is given on; of one's own perhaps; is read at once -/
def DG (X : Cx) (E : XK) (e : Expr) (f : FX D) : Prop := PE X e (rdA X.K E okG f)
def DO (X : Cx) (E : XK) (e : Expr) (f : FX (Bool × D)) : Prop := PE X e (rdA X.K E okO f)
def DH (X : Cx) (E : XK) (e : Expr) (f : FX Hd) : Prop := PE X e (rdA X.K E okH f)
def DT (X : Cx) (E : XK) (e : Expr) (f : FX Bool) : Prop := PT X e (rdA X.K E okT f)
def DA (X : Cx) (E : XK) (es : List Expr) (f : FX (List D)) : Prop := PA X es (rdA X.K E okA f)
def DHs (X : Cx) (E : XK) (es : List Expr) (f : FX (List Hd)) : Prop := PA X es (rdA X.K E okHs f)
/-- a reading that asks more -/
theorem PE.imp {X : Cx} {e : Expr} {t t' : TE} (h : PE X e t) (i : ∀ σ H Q, t' σ H Q → t σ H Q) : PE X e t' := ⟨fun pins s σ H Q I q => h.run pins s σ H Q I (i σ H Q q)⟩
theorem PT.imp {X : Cx} {e : Expr} {t t' : TT} (h : PT X e t) (i : ∀ σ H Q, t' σ H Q → t σ H Q) : PT X e t' := ⟨fun pins s σ H Q I q => h.run pins s σ H Q I (i σ H Q q)⟩
theorem PW.imp {X : Cx} {e : Expr} {t t' : TT} (h : PW X e t) (i : ∀ σ H Q, t' σ H Q → t σ H Q) : PW X e t' := ⟨fun wh pins s σ H Q I q => h.run wh pins s σ H Q I (i σ H Q q)⟩
theorem PA.imp {X : Cx} {es : List Expr} {t t' : TA} (h : PA X es t) (i : ∀ σ H Q, t' σ H Q → t σ H Q) : PA X es t' := ⟨fun pos pins s σ H Q I q => h.run pos pins s σ H Q I (i σ H Q q)⟩
theorem PS.imp {X : Cx} {st : Stmt} {t t' : TS} (h : PS X st t) (i : ∀ D σ H, t' D σ H → t D σ H) : PS X st t' := ⟨fun pins s σ H D I q => h.run pins s σ H D I (i D σ H q)⟩
theorem PSs.imp {X : Cx} {st : List Stmt} {t t' : TS} (h : PSs X st t) (i : ∀ D σ H, t' D σ H → t D σ H) : PSs X st t' := ⟨fun pins s σ H D I q => h.run pins s σ H D I (i D σ H q)⟩

section
variable {X : Cx} {E : XK} {e a b c : Expr} {es : List Expr} {pos : Pos}
/-! ### from one kind of reading to another -/
def fG (f : FX (Bool × D)) : FX D := fun Ed δ Q => f Ed δ fun r δ' => Q r.2 δ'
def fH (f : FX D) : FX Hd := fun Ed δ Q => f Ed δ fun d δ' => Q (.dt d) δ'
def fO (f : FX D) : FX (Bool × D) := fun Ed δ Q => f Ed δ fun d δ' => Q (false, d) δ'
theorem DO.g {f : FX (Bool × D)} (h : DO X E e f) : DG X E e (fG f) := PE.imp h fun σ H Q ⟨G, F, δ, Qd, Ed, eK, I, hf, hx, k⟩ =>
  ⟨G, F, δ, fun r δ' => Qd r.2 δ', Ed, eK, I, hf, hx, fun r δ' F' H' v q I' e' r' => by
    obtain ⟨F2, I2, e2, r2⟩ := Res.giveS I e' I' r'.1 r'.2
    exact k r.2 δ' F2 H' v q I2 e2 r2⟩
theorem DG.o {f : FX D} (h : DG X E e f) : DO X E e (fO f) := PE.imp h fun σ H Q ⟨G, F, δ, Qd, Ed, eK, I, hf, hx, k⟩ =>
  ⟨G, F, δ, fun d δ' => Qd (false, d) δ', Ed, eK, I, hf, hx, fun d δ' F' H' v q I' e' r' => k (false, d) δ' F' H' v q I' e' ⟨r', fun z => nomatch z⟩⟩
theorem DG.h {f : FX D} (h : DG X E e f) : DH X E e (fH f) := PE.imp h fun σ H Q ⟨G, F, δ, Qd, Ed, eK, I, hf, hx, k⟩ =>
  ⟨G, F, δ, fun d δ' => Qd (.dt d) δ', Ed, eK, I, hf, hx, fun d δ' F' H' v q I' e' r' => k (.dt d) δ' F' H' v q I' e' r'⟩

/-! ### names, constants -/
def gName (i : Nat) : FX D := fun _ δ Q => match δ.sl[i]? with
  | some (some (false, d)) => Q d δ
  | some (some (true, d)) => Q d (δ.put i (some (false, d)))
  | _ => False
def hName (i : Nat) : FX Hd := fun _ δ Q => match δ.sl[i]? with
  | some (some _) => Q (.sl i) δ
  | _ => False
theorem Hold.slotAt (G : Gd) {F : FS} {δ : Dst} {σ : L2.St} {H : Hp} (I : Hold G F δ σ H) {i : Nat} {r : Bool × D} (h : δ.sl[i]? = some (some r)) : ∃ v, σ[i]? = some (some v) := by
  obtain ⟨b, d⟩ := r
  cases b with
  | false => obtain ⟨v, h1, _⟩ := I.fro i d h; exact ⟨v, h1⟩
  | true => obtain ⟨v, h1, _⟩ := I.own i d h; exact ⟨_, h1⟩
theorem dg_name {i : Nat} (h : PE X e (tVar i)) : DG X E e (gName i) := PE.imp h fun σ H Q ⟨G, F, δ, Qd, Ed, eK, I, hf, hx, k⟩ => by
  unfold gName at hf
  split at hf
  · rename_i d q
    obtain ⟨v, h1, h2⟩ := I.fro i d q
    exact ⟨v, h1, k d δ F H v hf I (Stp.refl) h2⟩
  · rename_i d q
    obtain ⟨a, h1, I', e', r'⟩ := I.frzSlot q
    exact ⟨_, h1, k d _ _ H _ hf I' e' r'⟩
  · exact hf.elim
theorem dh_name {i : Nat} (h : PE X e (tVar i)) : DH X E e (hName i) := PE.imp h fun σ H Q ⟨G, F, δ, Qd, Ed, eK, I, hf, hx, k⟩ => by
  unfold hName at hf
  split at hf
  · rename_i r q
    obtain ⟨v, h1⟩ := I.slotAt G q
    exact ⟨v, h1, k (.sl i) δ F H v hf I (Stp.refl) h1⟩
  · exact hf.elim
def gC (d : D) : FX D := fun _ δ Q => Q d δ
/-- a constant: a flat value -/
theorem dg_c {v : V} {d : D} (h : PE X e (tC v)) (r : ∀ pa F H, Rep X.K pa F H v d) : DG X E e (gC d) := PE.imp h fun σ H Q ⟨G, F, δ, Qd, Ed, eK, I, hf, hx, k⟩ =>
  k d δ F H v hf I (Stp.refl) (by show Rep G.K G.pa F H v d; rw [eK]; exact r _ _ _)

/-! ### tests -/
def fTrue (f : FX D) : FX Bool := fun Ed δ Q => f Ed δ fun d δ' => match d with
  | .bl b => Q b δ'
  | _ => False
/-- an expression whose value is a bool -/
theorem dt_val {f : FX D} (h : DG X E e f) (he : ∀ whole, isTrue e X.env whole = (do let v ← whole; standAt e.pos; holding [v] (truthy v)) := by intro _; rfl) : DT X E e (fTrue f) :=
  PT.imp (pt_val h he) fun σ H Q ⟨G, F, δ, Qd, Ed, eK, I, hf, hx, k⟩ =>
    ⟨G, F, δ, fun d δ' => (match d with | .bl b => Qd b δ' | _ => False), Ed, eK, I, hf, hx, fun d δ' F' H' v q I' e' r' => by
      cases d with
      | bl b => cases r'; exact ⟨b, rfl, k b δ' F' H' b q I' e' rfl⟩
      | _ => exact False.elim q⟩
def fNot (f : FX Bool) : FX Bool := fun Ed δ Q => f Ed δ fun b δ' => Q (!b) δ'
theorem dt_not {f : FX Bool} (h : DT X E a f) : DT X E (.UnaryOp .Not a pos) (fNot f) := PT.imp (pt_not h) fun σ H Q ⟨G, F, δ, Qd, Ed, eK, I, hf, hx, k⟩ =>
  ⟨G, F, δ, fun b δ' => Qd (!b) δ', Ed, eK, I, hf, hx, fun b δ' F' H' v q I' e' r' => by
    have r2 : v = b := r'
    subst r2
    exact k (!v) δ' F' H' (!v) q I' e' rfl⟩
def DW (X : Cx) (E : XK) (e : Expr) (f : FX Bool) : Prop := PW X e (rdA X.K E okT f)
theorem DW.t {f : FX Bool} (h : DW X E e f) : DT X E e f := PW.pt h
theorem dw_and1 {f : FX Bool} (h : DT X E a f) : DW X E (.BoolOp .And [a] pos) f := pw_and1 h
theorem dw_or1 {f : FX Bool} (h : DT X E a f) : DW X E (.BoolOp .Or [a] pos) f := pw_or1 h
def fAnd (f g : FX Bool) : FX Bool := fun Ed δ Q => f Ed δ fun b δ' => match b with
  | true => g Ed δ' Q
  | false => Q false δ'
def fOr (f g : FX Bool) : FX Bool := fun Ed δ Q => f Ed δ fun b δ' => match b with
  | true => Q true δ'
  | false => g Ed δ' Q
theorem dw_and {f g : FX Bool} {rest : List Expr} (ha : DT X E a f) (hb : DW X E (.BoolOp .And (b :: rest) pos) g) : DW X E (.BoolOp .And (a :: b :: rest) pos) (fAnd f g) :=
  PW.imp (pw_and ha hb) fun σ H Q ⟨G, F, δ, Qd, Ed, eK, I, hf, hx, k⟩ =>
    ⟨G, F, δ, _, Ed, eK, I, hf, hx, fun b δ' F' H' v q I' e' r' => by
      have r2 : v = b := r'
      subst r2
      cases v with
      | true => exact ⟨G, F', δ', Qd, Ed, eK, I', q, hx, fun r δ2 F2 H2 v2 q2 I2 e2 r2 => k r δ2 F2 H2 v2 q2 I2 (e'.trans e2) r2⟩
      | false => exact k false δ' F' H' false q I' e' rfl⟩
theorem dw_or {f g : FX Bool} {rest : List Expr} (ha : DT X E a f) (hb : DW X E (.BoolOp .Or (b :: rest) pos) g) : DW X E (.BoolOp .Or (a :: b :: rest) pos) (fOr f g) :=
  PW.imp (pw_or ha hb) fun σ H Q ⟨G, F, δ, Qd, Ed, eK, I, hf, hx, k⟩ =>
    ⟨G, F, δ, _, Ed, eK, I, hf, hx, fun b δ' F' H' v q I' e' r' => by
      have r2 : v = b := r'
      subst r2
      cases v with
      | true => exact k true δ' F' H' true q I' e' rfl
      | false => exact ⟨G, F', δ', Qd, Ed, eK, I', q, hx, fun r δ2 F2 H2 v2 q2 I2 e2 r2 => k r δ2 F2 H2 v2 q2 I2 (e'.trans e2) r2⟩⟩
/-- and, or, not as values: of bools -/
def gAnd (f g : FX D) : FX D := fun Ed δ Q => f Ed δ fun d δ' => match d with
  | .bl true => g Ed δ' Q
  | .bl false => Q (.bl false) δ'
  | _ => False
def gOr (f g : FX D) : FX D := fun Ed δ Q => f Ed δ fun d δ' => match d with
  | .bl true => Q (.bl true) δ'
  | .bl false => g Ed δ' Q
  | _ => False
def gNot (f : FX D) : FX D := fun Ed δ Q => f Ed δ fun d δ' => match d with
  | .bl b => Q (.bl (!b)) δ'
  | _ => False
theorem dg_one {op} {f : FX D} (h : DG X E a f) : DG X E (.BoolOp op [a] pos) f := pe_one h
theorem dg_and {f g : FX D} {rest : List Expr} (ha : DG X E a f) (hb : DG X E (.BoolOp .And (b :: rest) pos) g) : DG X E (.BoolOp .And (a :: b :: rest) pos) (gAnd f g) :=
  PE.imp (pe_and ha hb) fun σ H Q ⟨G, F, δ, Qd, Ed, eK, I, hf, hx, k⟩ =>
    ⟨G, F, δ, _, Ed, eK, I, hf, hx, fun d δ' F' H' v q I' e' r' => by
      cases d with
      | bl b =>
        cases r'
        refine ⟨b, rfl, ?_⟩
        cases b with
        | true => exact ⟨G, F', δ', Qd, Ed, eK, I', q, hx, fun r δ2 F2 H2 v2 q2 I2 e2 r2 => k r δ2 F2 H2 v2 q2 I2 (e'.trans e2) r2⟩
        | false => exact k (.bl false) δ' F' H' _ q I' e' (.bl false)
      | _ => exact False.elim q⟩
theorem dg_or {f g : FX D} {rest : List Expr} (ha : DG X E a f) (hb : DG X E (.BoolOp .Or (b :: rest) pos) g) : DG X E (.BoolOp .Or (a :: b :: rest) pos) (gOr f g) :=
  PE.imp (pe_or ha hb) fun σ H Q ⟨G, F, δ, Qd, Ed, eK, I, hf, hx, k⟩ =>
    ⟨G, F, δ, _, Ed, eK, I, hf, hx, fun d δ' F' H' v q I' e' r' => by
      cases d with
      | bl b =>
        cases r'
        refine ⟨b, rfl, ?_⟩
        cases b with
        | false => exact ⟨G, F', δ', Qd, Ed, eK, I', q, hx, fun r δ2 F2 H2 v2 q2 I2 e2 r2 => k r δ2 F2 H2 v2 q2 I2 (e'.trans e2) r2⟩
        | true => exact k (.bl true) δ' F' H' _ q I' e' (.bl true)
      | _ => exact False.elim q⟩
theorem dg_not {f : FX D} (ha : DG X E a f) : DG X E (.UnaryOp .Not a pos) (gNot f) :=
  PE.imp (pe_not ha) fun σ H Q ⟨G, F, δ, Qd, Ed, eK, I, hf, hx, k⟩ =>
    ⟨G, F, δ, _, Ed, eK, I, hf, hx, fun d δ' F' H' v q I' e' r' => by
      cases d with
      | bl b => cases r'; exact ⟨b, rfl, k (.bl (!b)) δ' F' H' _ q I' e' (.bl (!b))⟩
      | _ => exact False.elim q⟩
def fIf {α : Type} (t : FX Bool) (f g : FX α) : FX α := fun Ed δ Q => t Ed δ fun b δ' => match b with
  | true => f Ed δ' Q
  | false => g Ed δ' Q
theorem dg_if {t : FX Bool} {f g : FX D} (hc : DT X E c t) (ha : DG X E a f) (hb : DG X E b g) : DG X E (.IfExp c a b pos) (fIf t f g) :=
  PE.imp (pe_ifExp hc ha hb) fun σ H Q ⟨G, F, δ, Qd, Ed, eK, I, hf, hx, k⟩ =>
    ⟨G, F, δ, _, Ed, eK, I, hf, hx, fun b δ' F' H' v q I' e' r' => by
      have r2 : v = b := r'
      subst r2
      cases v with
      | true => exact ⟨G, F', δ', Qd, Ed, eK, I', q, hx, fun r δ2 F2 H2 v2 q2 I2 e2 r2 => k r δ2 F2 H2 v2 q2 I2 (e'.trans e2) r2⟩
      | false => exact ⟨G, F', δ', Qd, Ed, eK, I', q, hx, fun r δ2 F2 H2 v2 q2 I2 e2 r2 => k r δ2 F2 H2 v2 q2 I2 (e'.trans e2) r2⟩⟩

/-! ### argument lists -/
def aNil {α : Type} : FX (List α) := fun _ δ Q => Q [] δ
def aCons {α : Type} (f : FX α) (g : FX (List α)) : FX (List α) := fun Ed δ Q => f Ed δ fun d δ1 => g Ed δ1 fun ds δ2 => Q (d :: ds) δ2
theorem da_nil : DA X E [] aNil := PA.imp pa_nil fun σ H Q ⟨G, F, δ, Qd, Ed, eK, I, hf, hx, k⟩ => k [] δ F H [] hf I (Stp.refl) .nil
theorem da_cons {f : FX D} {g : FX (List D)} (ha : DG X E e f) (hr : DA X E es g) (hs : starEach (e :: es) X.env = (false, eval e X.env) :: starEach es X.env := by rfl) : DA X E (e :: es) (aCons f g) :=
  PA.imp (pa_cons ha hr hs) fun σ H Q ⟨G, F, δ, Qd, Ed, eK, I, hf, hx, k⟩ =>
    ⟨G, F, δ, _, Ed, eK, I, hf, hx, fun d δ1 F1 H1 v q1 I1 e1 r1 => ⟨G, F1, δ1, _, Ed, eK, I1, q1, hx, fun ds δ2 F2 H2 vs q2 I2 e2 r2 => k (d :: ds) δ2 F2 H2 (v :: vs) q2 I2 (e1.trans e2) (.cons (Rep.ext e2.ext d r1) r2)⟩⟩
theorem paired_ext {G : Gd} {F F' : FS} {H H' : Hp} {σ : L2.St} (e : Ext F H F' H') : ∀ {vs : List V} {hs : List Hd}, Paired (fun v h => HdOk G F H σ v h) vs hs → Paired (fun v h => HdOk G F' H' σ v h) vs hs
  | _, _, .nil => .nil
  | _, _, .cons r t => .cons (HdOk.ext e r) (paired_ext e t)
theorem dhs_nil : DHs X E [] aNil := PA.imp pa_nil fun σ H Q ⟨G, F, δ, Qd, Ed, eK, I, hf, hx, k⟩ => k [] δ F H [] hf I (Stp.refl) .nil
theorem dhs_cons {f : FX Hd} {g : FX (List Hd)} (ha : DH X E e f) (hr : DHs X E es g) (hs : starEach (e :: es) X.env = (false, eval e X.env) :: starEach es X.env := by rfl) : DHs X E (e :: es) (aCons f g) :=
  PA.imp (pa_cons ha hr hs) fun σ H Q ⟨G, F, δ, Qd, Ed, eK, I, hf, hx, k⟩ =>
    ⟨G, F, δ, _, Ed, eK, I, hf, hx, fun d δ1 F1 H1 v q1 I1 e1 r1 => ⟨G, F1, δ1, _, Ed, eK, I1, q1, hx, fun ds δ2 F2 H2 vs q2 I2 e2 r2 => k (d :: ds) δ2 F2 H2 (v :: vs) q2 I2 (e1.trans e2) (.cons (HdOk.ext e2.ext r1) r2)⟩⟩
end
end DS
end
section
set_option maxRecDepth 100000
set_option maxHeartbeats 1000000
/-! DS2: operators, calls, statements, loops, comprehensions over data. -/
namespace DS
open PySem PySem.Spec PyProof.Rows L2

/-! ### operations on values that are read -/
def with1 (x : Hd) (δ : Dst) (k : D → Prop) : Prop := match x.get δ with
  | some a => k a
  | none => False
def with2 (x y : Hd) (δ : Dst) (k : D → D → Prop) : Prop := match x.get δ, y.get δ with
  | some a, some b => k a b
  | _, _ => False
def withs (δ : Dst) : List Hd → (List D → Prop) → Prop
  | [], k => k []
  | h :: hs, k => match h.get δ with
    | some d => withs δ hs fun ds => k (d :: ds)
    | none => False
/-- what is handed on behind an operation: the slots stay -/
abbrev Kont (G : Gd) (F : FS) (δ : Dst) (σ : L2.St) (H : Hp) (P : Bool × D → Prop) (Q : VK) : Prop :=
  ∀ r F' H' z, P r → Hold G F' δ σ H' → Stp G σ δ F H δ F' H' → okO G H F' H' σ δ z r → Q z H'
abbrev VwG (G : Gd) (F : FS) (H : Hp) (v : V) (d : D) : Prop := Vw G.K G.pa F H v d
def OpS (X : Cx) (r : R2) (g : D → D → (Bool × D → Prop) → Prop) : Prop :=
  ∀ (G : Gd) (F : FS) (δ : Dst) (σ : L2.St) (H : Hp) (v u : V) (x y : D) (P : Bool × D → Prop) (Q : VK), G.K = X.K → Hold G F δ σ H → VwG G F H v x → VwG G F H u y → g x y P → Kont G F δ σ H P Q → r v u H Q
def UnS (X : Cx) (r : V → Hp → VK → Prop) (g : D → (Bool × D → Prop) → Prop) : Prop :=
  ∀ (G : Gd) (F : FS) (δ : Dst) (σ : L2.St) (H : Hp) (v : V) (x : D) (P : Bool × D → Prop) (Q : VK), G.K = X.K → Hold G F δ σ H → VwG G F H v x → g x P → Kont G F δ σ H P Q → r v H Q
inductive VwAll (G : Gd) (F : FS) (H : Hp) : List V → List D → Prop
  | nil : VwAll G F H [] []
  | cons {v : V} {vs : List V} {d : D} {ds : List D} : VwG G F H v d → VwAll G F H vs ds → VwAll G F H (v :: vs) (d :: ds)
def CallS (X : Cx) (r : List V → Hp → VK → Prop) (g : List D → (Bool × D → Prop) → Prop) : Prop :=
  ∀ (G : Gd) (F : FS) (δ : Dst) (σ : L2.St) (H : Hp) (vs : List V) (xs : List D) (P : Bool × D → Prop) (Q : VK), G.K = X.K → Hold G F δ σ H → VwAll G F H vs xs → g xs P → Kont G F δ σ H P Q → r vs H Q
def MtS (X : Cx) (T : String) (r : V → List V → Hp → VK → Prop) (g : D → List D → (Bool × D → Prop) → Prop) : Prop :=
  ∀ (G : Gd) (F : FS) (δ : Dst) (σ : L2.St) (H : Hp) (v : V) (vs : List V) (x : D) (xs : List D) (P : Bool × D → Prop) (Q : VK), G.K = X.K → Hold G F δ σ H → VwG G F H v x → VwAll G F H vs xs → g x xs P → Kont G F δ σ H P Q → r v vs H Q
section
variable {G : Gd} {F F' : FS} {H H' : Hp} {σ : L2.St} {δ : Dst}
theorem withs_ok (I : Hold G F δ σ H) : ∀ {vs : List V} {hs : List Hd} {k : List D → Prop}, Paired (fun v h => HdOk G F H σ v h) vs hs → withs δ hs k → ∃ ds, VwAll G F H vs ds ∧ k ds
  | _, _, _, .nil, h => ⟨[], .nil, h⟩
  | v :: vs, x :: hs, k, .cons r t, h => by
    unfold withs at h
    split at h
    · rename_i d q
      obtain ⟨ds, h1, h2⟩ := withs_ok I t h
      exact ⟨d :: ds, .cons (r.vw I q) h1, h2⟩
    · exact h.elim
/-- a scalar result -/
theorem kont_flat {P : Bool × D → Prop} {Q : VK} (I : Hold G F δ σ H) (k : Kont G F δ σ H P Q) {d : D} {v : V} (p : P (false, d)) (r : Rep G.K G.pa F H v d) : Q v H :=
  k (false, d) F H v p I Stp.refl ⟨r, fun z => nomatch z⟩
/-- a new object of one's own -/
theorem kont_new {P : Bool × D → Prop} {Q : VK} (I : Hold G F δ σ H) (k : Kont G F δ σ H P Q) {d : D} {p : Addr} {o : HO} (hP : P (true, d)) (hp : H p = none)
    (ho : ∀ H', Ext F H F H' → H' p = some o → OwnO G.K G.pa F H' p d) : Q (.ref p) (upd H p o) := by
  obtain ⟨p0, np, nf⟩ := I.bas.free hp
  refine k (true, d) F _ _ hP (I.alloc hp) (Stp.alloc I hp) ⟨⟨p, rfl, ⟨nf, p0, np, ho _ (I.allocE hp) upd_same⟩, fun i e q z => ?_⟩, fun _ a e => by cases e; exact hp⟩
  obtain ⟨a, q1, q2⟩ := I.own i e q
  rw [z] at q1
  cases q1
  exact q2.at_.trk hp
/-- a new object, frozen at once -/
theorem kont_frz {P : Bool × D → Prop} {Q : VK} (I : Hold G F δ σ H) (k : Kont G F δ σ H P Q) {d : D} {p : Addr} {o : HO} (hP : P (false, d)) (hp : H p = none)
    (ho : ∀ F' H', Ext F H F' H' → F' p → H' p = some o → Rep G.K G.pa F' H' (.ref p) d) : Q (.ref p) (upd H p o) := by
  obtain ⟨p0, np, nf⟩ := I.bas.free hp
  have I1 := I.alloc (o := o) hp
  have I2 : Hold G (frz1 F p) δ σ (upd H p o) := I1.frz p0 np (by rw [upd_same]; simp) fun i e q z => by
    obtain ⟨a, q1, q2⟩ := I.own i e q
    rw [z] at q1
    cases q1
    exact q2.at_.trk hp
  have s : Stp G σ δ F H δ (frz1 F p) (upd H p o) := ⟨(I.allocE hp).trans (Ext.frz1 F _ p), fun _ e h => ⟨e, h⟩, (Stp.alloc I hp).kp, fun a f => f.elim .inl fun z => by subst z; exact .inr (.inl hp), (Stp.alloc I hp).trk⟩
  exact k (false, d) _ _ _ hP I2 s ⟨ho _ _ s.ext (.inr rfl) upd_same, fun z => nomatch z⟩
end
section
variable {X : Cx} {E : XK} {e a b c : Expr} {es : List Expr} {pos : Pos}
def fOp (g : D → D → (Bool × D → Prop) → Prop) (fa fb : FX Hd) : FX (Bool × D) := fun Ed δ Q => fa Ed δ fun x δ1 => fb Ed δ1 fun y δ2 => with2 x y δ2 fun dx dy => g dx dy fun r => Q r δ2
theorem rd_bin {ta : FX Hd} {tb : FX Hd} {r : R2} {g : D → D → (Bool × D → Prop) → Prop} (hs : OpS X r g) {σ : L2.St} {H : Hp} {Q : VK} (h : rdA X.K E okO (fOp g ta tb) σ H Q) :
    tOp r (rdA X.K E okH ta) (rdA X.K E okH tb) σ H Q := by
  obtain ⟨G, F, δ, Qd, Ed, eK, I, hf, hx, k⟩ := h
  refine ⟨G, F, δ, _, Ed, eK, I, hf, hx, fun x δ1 F1 H1 v q1 I1 e1 r1 => ⟨G, F1, δ1, _, Ed, eK, I1, q1, hx, fun y δ2 F2 H2 u q2 I2 e2 r2 => ?_⟩⟩
  unfold with2 at q2
  split at q2
  · rename_i dx dy h1 h2
    exact hs G F2 δ2 σ H2 v u dx dy _ Q eK I2 (HdOk.vw I2 (HdOk.ext e2.ext r1) h1) (HdOk.vw I2 r2 h2) q2 fun r F' H' z p I' s' o' =>
      k r δ2 F' H' z p I' ((e1.trans e2).trans s') ⟨o'.1, fun w a ha => Classical.byContradiction fun n => (e1.trans e2).trk a n (o'.2 w a ha)⟩
  · exact q2.elim
theorem do_bin {op : Operator} {r : R2} {g : D → D → (Bool × D → Prop) → Prop} {fa fb : FX Hd} (ho : OpR X (binaryOp op) r) (hs : OpS X r g) (ha : DH X E a fa) (hb : DH X E b fb) : DO X E (.BinOp a op b pos) (fOp g fa fb) :=
  PE.imp (pe_op ho ha hb) fun _ _ _ h => rd_bin hs h
theorem do_cmp {op : CmpOp} {r : R2} {g : D → D → (Bool × D → Prop) → Prop} {fa fb : FX Hd} (ho : OpR X (compareOp op) r) (hs : OpS X r g) (ha : DH X E a fa) (hb : DH X E b fb) (hm : behindInMarks op b = false) : DO X E (.Compare a [op] [b] pos) (fOp g fa fb) :=
  PE.imp (pe_cmpR ho ha hb hm) fun _ _ _ h => rd_bin hs h
/-- a comparison as a test -/
def tOp2 (g : D → D → (Bool × D → Prop) → Prop) (fa fb : FX Hd) : FX Bool := fun Ed δ Q => fa Ed δ fun x δ1 => fb Ed δ1 fun y δ2 => with2 x y δ2 fun dx dy => g dx dy fun r => match r.2 with
  | .bl c => Q c δ2
  | _ => False
theorem dt_cmp {op : CmpOp} {r : R2} {g : D → D → (Bool × D → Prop) → Prop} {fa fb : FX Hd} (ho : OpR X (compareOp op) r) (hs : OpS X r g) (ha : DH X E a fa) (hb : DH X E b fb) (hm : behindInMarks op b = false) : DT X E (.Compare a [op] [b] pos) (tOp2 g fa fb) :=
  PT.imp (pt_cmpR ho ha hb hm) fun σ H Q ⟨G, F, δ, Qd, Ed, eK, I, hf, hx, k⟩ => by
    refine rd_bin hs ⟨G, F, δ, fun r δ' => (match r.2 with | .bl c => Qd c δ' | _ => False), Ed, eK, I, hf, hx, fun r δ' F' H' v q I' e' r' => ?_⟩
    obtain ⟨F2, I2, e2, r2⟩ := Res.giveS I e' I' r'.1 r'.2
    obtain ⟨b, d⟩ := r
    cases d with
    | bl c => cases r2; exact ⟨c, rfl, k c δ' F2 H' c q I2 e2 rfl⟩
    | _ => exact q.elim
/-- a op b op' c -/
def fChain (g g' : D → D → (Bool × D → Prop) → Prop) (fa fb fc : FX Hd) : FX D := fun Ed δ Q => fa Ed δ fun x δ1 => fb Ed δ1 fun y δ2 => with2 x y δ2 fun dx dy => g dx dy fun r => match r.2 with
  | .bl true => fc Ed δ2 fun z δ3 => with2 y z δ3 fun dy dz => g' dy dz fun r => Q r.2 δ3
  | .bl false => Q (.bl false) δ2
  | _ => False
theorem dg_chain {op op' : CmpOp} {r r' : R2} {g g' : D → D → (Bool × D → Prop) → Prop} {fa fb fc : FX Hd} (ho : OpR X (compareOp op) r) (ho' : OpR X (compareOp op') r') (hs : OpS X r g) (hs' : OpS X r' g') (ha : DH X E a fa) (hb : DH X E b fb) (hc : DH X E c fc)
    (hm : lastMarks [op, op'] [b, c] = false := by with_unfolding_all rfl) : DG X E (.Compare a [op, op'] [b, c] pos) (fChain g g' fa fb fc) :=
  PE.imp (pe_chain ho ho' ha hb hc hm) fun σ H Q ⟨G, F, δ, Qd, Ed, eK, I, hf, hx, k⟩ => by
    refine ⟨G, F, δ, _, Ed, eK, I, hf, hx, fun x δ1 F1 H1 v q1 I1 e1 r1 => ⟨G, F1, δ1, _, Ed, eK, I1, q1, hx, fun y δ2 F2 H2 u q2 I2 e2 r2 => ?_⟩⟩
    unfold with2 at q2
    split at q2
    · rename_i dx dy h1 h2
      refine hs G F2 δ2 σ H2 v u dx dy _ _ eK I2 (HdOk.vw I2 (HdOk.ext e2.ext r1) h1) (HdOk.vw I2 r2 h2) q2 fun rr F' H' z p I' s' o' => ?_
      obtain ⟨F3, I3, e3, r3⟩ := Res.giveS I2 s' I' o'.1 o'.2
      obtain ⟨bb, d⟩ := rr
      cases d with
      | bl c' =>
        cases r3
        refine ⟨c', rfl, ?_⟩
        cases c' with
        | false => exact k (.bl false) δ2 F3 H' _ p I3 ((e1.trans e2).trans e3) (.bl false)
        | true =>
          refine ⟨G, F3, δ2, _, Ed, eK, I3, p, hx, fun w δ4 F4 H4 v4 q4 I4 e4 r4 => ?_⟩
          unfold with2 at q4
          split at q4
          · rename_i dy' dz h3 h4
            refine hs' G F4 δ4 σ H4 u v4 dy' dz _ Q eK I4 (HdOk.vw I4 (HdOk.ext (e3.trans e4).ext r2) h3) (HdOk.vw I4 r4 h4) q4 fun rr F5 H5 z5 p5 I5 s5 o5 => ?_
            obtain ⟨F6, I6, e6, r6⟩ := Res.giveS I4 s5 I5 o5.1 o5.2
            exact k rr.2 δ4 F6 H5 z5 p5 I6 ((((e1.trans e2).trans e3).trans e4).trans e6) r6
          · exact q4.elim
      | _ => exact p.elim
    · exact q2.elim
/-- -a -/
def fUn (g : D → (Bool × D → Prop) → Prop) (fa : FX Hd) : FX (Bool × D) := fun Ed δ Q => fa Ed δ fun x δ1 => with1 x δ1 fun dx => g dx fun r => Q r δ1
theorem rd_un {ta : FX Hd} {r : V → Hp → VK → Prop} {g : D → (Bool × D → Prop) → Prop} (hs : UnS X r g) {σ : L2.St} {H : Hp} {Q : VK} (h : rdA X.K E okO (fUn g ta) σ H Q) :
    rdA X.K E okH ta σ H (fun x H1 => r x H1 Q) := by
  obtain ⟨G, F, δ, Qd, Ed, eK, I, hf, hx, k⟩ := h
  refine ⟨G, F, δ, _, Ed, eK, I, hf, hx, fun x δ1 F1 H1 v q1 I1 e1 r1 => ?_⟩
  unfold with1 at q1
  split at q1
  · rename_i dx h1
    exact hs G F1 δ1 σ H1 v dx _ Q eK I1 (HdOk.vw I1 r1 h1) q1 fun r F' H' z p I' s' o' =>
      k r δ1 F' H' z p I' (e1.trans s') ⟨o'.1, fun w a ha => Classical.byContradiction fun n => e1.trk a n (o'.2 w a ha)⟩
  · exact q1.elim
theorem do_un {op : UnaryOp} {r : V → Hp → VK → Prop} {g : D → (Bool × D → Prop) → Prop} {fa : FX Hd} (ho : UnR X (unaryOp op) r) (hs : UnS X r g) (ha : DH X E a fa) : DO X E (.UnaryOp op a pos) (fUn g fa) :=
  PE.imp (pe_un ho ha) fun _ _ _ h => rd_un hs h
/-- a[b] -/
theorem do_ix {r : R2} {g : D → D → (Bool × D → Prop) → Prop} {fa fb : FX Hd} (hr : IxR X r) (hs : OpS X r g) (ha : DH X E a fa) (hb : DH X E b fb) (hp : PlainIx b) : DO X E (.Subscript a b pos) (fOp g fa fb) :=
  PE.imp (pe_ix hr ha hb hp) fun _ _ _ h => rd_bin hs h
/-- f(e, ..) of a built-in -/
def fCall (g : List D → (Bool × D → Prop) → Prop) (fa : FX (List Hd)) : FX (Bool × D) := fun Ed δ Q => fa Ed δ fun hs δ1 => withs δ1 hs fun ds => g ds fun r => Q r δ1
theorem rd_call {ta : FX (List Hd)} {r : List V → Hp → VK → Prop} {g : List D → (Bool × D → Prop) → Prop} (hs : CallS X r g) {σ : L2.St} {H : Hp} {Q : VK} (h : rdA X.K E okO (fCall g ta) σ H Q) :
    rdA X.K E okHs ta σ H (fun vs H1 => r vs H1 Q) := by
  obtain ⟨G, F, δ, Qd, Ed, eK, I, hf, hx, k⟩ := h
  refine ⟨G, F, δ, _, Ed, eK, I, hf, hx, fun x δ1 F1 H1 vs q1 I1 e1 r1 => ?_⟩
  obtain ⟨ds, h1, h2⟩ := withs_ok I1 r1 q1
  exact hs G F1 δ1 σ H1 vs ds _ Q eK I1 h1 h2 fun r F' H' z p I' s' o' =>
    k r δ1 F' H' z p I' (e1.trans s') ⟨o'.1, fun w a ha => Classical.byContradiction fun n => e1.trk a n (o'.2 w a ha)⟩
theorem do_callB {x : Str} {p : Pos} {id : String} {r : List V → Hp → VK → Prop} {g : List D → (Bool × D → Prop) → Prop} {fa : FX (List Hd)} (hc : CallR X (.builtin id) r) (hs : CallS X r g) (hg : Gl X x) (hm : X.mg x = none) (hv : bootBuiltins x = some (.builtin id))
    (ha : DHs X E (e :: es) fa) (hn : x ≠ "__name__" := by decide) (hdb : (x == ("__debug__" : Str)) = false := by decide) (he : starEach (e :: es) X.env = (false, eval e X.env) :: starEach es X.env := by rfl) (hpl : (backTo pos (starEach es X.env)).any (·.1) = false := by rfl) :
    DO X E (.Call (.Name x p) (e :: es) [] pos) (fCall g fa) :=
  PE.imp (pe_callB hc hg hm hv ha hn hdb he hpl) fun _ _ _ h => rd_call hs h
theorem do_callTy {x : Str} {p : Pos} {T : String} {r : List V → Hp → VK → Prop} {g : List D → (Bool × D → Prop) → Prop} {fa : FX (List Hd)} (hc : CallR X (.type T) r) (hs : CallS X r g) (hg : Gl X x) (hm : X.mg x = none) (hv : bootBuiltins x = some (.type T))
    (ha : DHs X E (e :: es) fa) (hn : x ≠ "__name__" := by decide) (hdb : (x == ("__debug__" : Str)) = false := by decide) (he : starEach (e :: es) X.env = (false, eval e X.env) :: starEach es X.env := by rfl) (hpl : (backTo pos (starEach es X.env)).any (·.1) = false := by rfl) :
    DO X E (.Call (.Name x p) (e :: es) [] pos) (fCall g fa) :=
  PE.imp (pe_callTy hc hg hm hv ha hn hdb he hpl) fun _ _ _ h => rd_call hs h

/-! ### displays -/
def fTup (fa : FX (List D)) : FX (Bool × D) := fun Ed δ Q => fa Ed δ fun ds δ1 => ds.length ≤ sizeLine ∧ Q (false, .tup ds) δ1
def fLst (fa : FX (List D)) : FX (Bool × D) := fun Ed δ Q => fa Ed δ fun ds δ1 => ds.length ≤ sizeLine ∧ Q (true, .lst ds) δ1
theorem do_tup {k : Nat} {fa : FX (List D)} (h : DA X E es fa) : DO X E (.Tuple es k pos) (fTup fa) :=
  PE.imp (pe_tupF h) fun σ H Q ⟨G, F, δ, Qd, Ed, eK, I, hf, hx, k⟩ => ⟨G, F, δ, _, Ed, eK, I, hf, hx, fun ds δ1 F1 H1 vs q1 I1 e1 r1 => by
    refine ⟨by rw [RepAll.len r1]; exact q1.1, fun ob p ho hp => ?_⟩
    refine kont_frz I1 (P := fun r => Qd r δ1) (fun r F' H' z pp I' s' o' => k r δ1 F' H' z pp I' (e1.trans s') ⟨o'.1, fun w a ha => Classical.byContradiction fun n => e1.trk a n (o'.2 w a ha)⟩) q1.2 hp fun F' H' e' f o => ?_
    exact .tup ⟨f, ob, o, ho⟩ (r1.ext e')⟩
theorem do_lst {fa : FX (List D)} (h : DA X E es fa) : DO X E (.List es pos) (fLst fa) :=
  PE.imp (pe_lst h) fun σ H Q ⟨G, F, δ, Qd, Ed, eK, I, hf, hx, k⟩ => ⟨G, F, δ, _, Ed, eK, I, hf, hx, fun ds δ1 F1 H1 vs q1 I1 e1 r1 => by
    refine ⟨by rw [RepAll.len r1]; exact q1.1, fun p hp => ?_⟩
    refine kont_new I1 (P := fun r => Qd r δ1) (fun r F' H' z pp I' s' o' => k r δ1 F' H' z pp I' (e1.trans s') ⟨o'.1, fun w a ha => Classical.byContradiction fun n => e1.trk a n (o'.2 w a ha)⟩) q1.2 hp fun H' e' o => ?_
    exact ⟨vs, o, r1.ext e'⟩⟩
end

/-! ### statements -/
structure DEn where
  nx : Dst → Prop
  rt : D → Nat → Prop
  bk : Dst → Prop := fun _ => False
  ct : Dst → Prop := fun _ => False
structure EndsOk (G : Gd) (Dd : DEn) (D : Ends) : Prop where
  nx : ∀ δ F σ H, Dd.nx δ → Hold G F δ σ H → D.nx σ H
  rt : ∀ d n F H v, Dd.rt d n → Bas G F H n → Rep G.K G.pa F H v d → D.rt v H
  bk : ∀ δ F σ H, Dd.bk δ → Hold G F δ σ H → D.bk σ H
  ct : ∀ δ F σ H, Dd.ct δ → Hold G F δ σ H → D.ct σ H
abbrev FSt := EdT → DEn → Dst → Prop
def rdS (K : KF) (E : XK) (f : FSt) : TS := fun D σ H =>
  ∃ (G : Gd) (F : FS) (δ : Dst) (Dd : DEn) (Ed : EdT), G.K = K ∧ Hold G F δ σ H ∧ f Ed Dd δ ∧ XOk G E Ed ∧ EndsOk G Dd D
def DSt (X : Cx) (E : XK) (st : Stmt) (f : FSt) : Prop := PS X st (rdS X.K E f)
def DSs (X : Cx) (E : XK) (sts : List Stmt) (f : FSt) : Prop := PSs X sts (rdS X.K E f)
section
variable {X : Cx} {E : XK} {e a b c : Expr} {es : List Expr} {pos : Pos} {st : Stmt} {rest : List Stmt}
def sNext : FSt := fun _ D δ => D.nx δ
def sSeq (f g : FSt) : FSt := fun Ed D δ => f Ed { D with nx := fun δ' => g Ed D δ' } δ
theorem ds_nil : DSs X E [] sNext := PSs.imp pss_nil fun D σ H ⟨G, F, δ, Dd, Ed, eK, I, hf, hx, k⟩ => k.nx δ F σ H hf I
theorem ds_cons {f g : FSt} (h1 : DSt X E st f) (h2 : DSs X E rest g) : DSs X E (st :: rest) (sSeq f g) :=
  PSs.imp (pss_cons h1 h2) fun D σ H ⟨G, F, δ, Dd, Ed, eK, I, hf, hx, k⟩ =>
    ⟨G, F, δ, _, Ed, eK, I, hf, hx, ⟨fun δ' F' σ' H' q I' => ⟨G, F', δ', Dd, Ed, eK, I', q, hx, k⟩, k.rt, k.bk, k.ct⟩⟩
theorem ds_one {f : FSt} (h1 : DSt X E st f) : DSs X E [st] f := pss_one h1
theorem ds_pass : DSt X E (.Pass pos) sNext := PS.imp ps_pass fun D σ H ⟨G, F, δ, Dd, Ed, eK, I, hf, hx, k⟩ => k.nx δ F σ H hf I
def sBreak : FSt := fun _ D δ => D.bk δ
def sCont : FSt := fun _ D δ => D.ct δ
theorem ds_break : DSt X E (.Break pos) sBreak := PS.imp ps_break fun D σ H ⟨G, F, δ, Dd, Ed, eK, I, hf, hx, k⟩ => k.bk δ F σ H hf I
theorem ds_cont : DSt X E (.Continue pos) sCont := PS.imp ps_continue fun D σ H ⟨G, F, δ, Dd, Ed, eK, I, hf, hx, k⟩ => k.ct δ F σ H hf I
def sNever : FSt := fun _ _ _ => False
theorem ds_never : DSt X E st sNever := PS.imp ps_never fun D σ H ⟨G, F, δ, Dd, Ed, eK, I, hf, hx, k⟩ => hf
def sDrop {α : Type} (f : FX α) : FSt := fun Ed D δ => f Ed δ fun _ δ' => D.nx δ'
theorem ds_expr {f : FX D} (he : DG X E e f) (hs : swapsWith e none pos.line X.env = pure false := by rfl) : DSt X E (.Expr e pos) (sDrop f) :=
  PS.imp (ps_expr he hs) fun D σ H ⟨G, F, δ, Dd, Ed, eK, I, hf, hx, k⟩ => ⟨G, F, δ, _, Ed, eK, I, hf, hx, fun r δ' F' H' v q I' e' r' => k.nx δ' F' σ H' q I'⟩
def sRet (f : FX D) : FSt := fun Ed D δ => f Ed δ fun d δ' => D.rt d δ'.n
theorem ds_ret {f : FX D} (he : DG X E e f) : DSt X E (.Return (some e) pos) (sRet f) :=
  PS.imp (ps_ret he) fun D σ H ⟨G, F, δ, Dd, Ed, eK, I, hf, hx, k⟩ => ⟨G, F, δ, _, Ed, eK, I, hf, hx, fun r δ' F' H' v q I' e' r' => k.rt r δ'.n F' H' v q I'.bas r'⟩
def sRetN : FSt := fun _ D δ => D.rt .non δ.n
theorem ds_retN : DSt X E (.Return none pos) sRetN := PS.imp ps_retN fun D σ H ⟨G, F, δ, Dd, Ed, eK, I, hf, hx, k⟩ => k.rt .non δ.n F H .non hf I.bas .non
def sIf (t : FX Bool) (f g : FSt) : FSt := fun Ed D δ => t Ed δ fun b δ' => match b with
  | true => f Ed D δ'
  | false => g Ed D δ'
theorem ds_if {t : FX Bool} {f g : FSt} {xs ys : List Stmt} (hc : DT X E c t) (ha : DSs X E xs f) (hb : DSs X E ys g) : DSt X E (.If c xs ys pos) (sIf t f g) :=
  PS.imp (ps_if hc ha hb) fun D σ H ⟨G, F, δ, Dd, Ed, eK, I, hf, hx, k⟩ => ⟨G, F, δ, _, Ed, eK, I, hf, hx, fun b δ' F' H' v q I' e' r' => by
    have r2 : v = b := r'
    subst r2
    cases v with
    | true => exact ⟨G, F', δ', Dd, Ed, eK, I', q, hx, k⟩
    | false => exact ⟨G, F', δ', Dd, Ed, eK, I', q, hx, k⟩⟩
/-- name = value -/
def sSet (i : Nat) (f : FX (Bool × D)) : FSt := fun Ed D δ => f Ed δ fun r δ' => D.nx (δ'.put i (some r))
theorem ds_set {i : Nat} {x : Str} {pos' : Pos} {f : FX (Bool × D)} (hN : X.N.Nodup) (hi : X.N[i]? = some x) (hx : Loc X.env.scope x) (he : DO X E e f) (hs : swapsWith e (some (.Name x pos')) pos.line X.env = pure false := by rfl)
    (hf : X.fn x = true ∨ X.env.scope.names.lookup x = some .local := by first | exact .inl rfl | exact .inr rfl | assumption) : DSt X E (.Assign [.Name x pos'] e pos) (sSet i f) :=
  PS.imp (ps_set hN hi hx he hs hf) fun D σ H ⟨G, F, δ, Dd, Ed, eK, I, hf, hx, k⟩ => ⟨G, F, δ, _, Ed, eK, I, hf, hx, fun r δ' F' H' v q I' e' r' => k.nx _ F' _ H' q (I'.put r'.1)⟩

/-! ### targets -/
abbrev FTg := D → Dst → (Dst → Prop) → Prop
/-- only the slots vs are written, by what is frozen -/
structure TgS (vs : List Nat) (δ : Dst) (σ : L2.St) (δ' : Dst) (σ' : L2.St) : Prop where
  len : σ'.length = σ.length
  off : ∀ j, j ∉ vs → σ'[j]? = σ[j]?
  own : ∀ (j : Nat) (e : D), δ'.sl[j]? = some (some (true, e)) → j ∉ vs ∧ δ.sl[j]? = some (some (true, e))
theorem TgS.append {vs ws : List Nat} {δ δ1 δ2 : Dst} {σ σ1 σ2 : L2.St} (a : TgS vs δ σ δ1 σ1) (b : TgS ws δ1 σ1 δ2 σ2) : TgS (vs ++ ws) δ σ δ2 σ2 :=
  ⟨b.len.trans a.len, fun j h => by
    rw [List.mem_append, not_or] at h
    exact (b.off j h.2).trans (a.off j h.1), fun j e h => by
    obtain ⟨h1, h2⟩ := b.own j e h
    obtain ⟨h3, h4⟩ := a.own j e h2
    exact ⟨by rw [List.mem_append, not_or]; exact ⟨h3, h1⟩, h4⟩⟩
def rdTg (K : KF) (vs : List Nat) (g : FTg) : TG := fun v σ H Q => ∃ (G : Gd) (F : FS) (δ : Dst) (d : D) (Qd : Dst → Prop), G.K = K ∧ Hold G F δ σ H ∧ Rep G.K G.pa F H v d ∧ g d δ Qd ∧
  ∀ δ' F' σ' H', Qd δ' → Hold G F' δ' σ' H' → Ext F H F' H' → (∀ a, F' a → F a) → (∀ a, H' a = H a) → TgS vs δ σ δ' σ' → Q σ' H'
def DTg (X : Cx) (tg : Expr) (vs : List Nat) (g : FTg) : Prop := PG X tg (rdTg X.K vs g)
theorem PG.imp {tg : Expr} {t t' : TG} (h : PG X tg t) (i : ∀ v σ H Q, t' v σ H Q → t v σ H Q) : PG X tg t' := ⟨fun pins s σ H v u Q I r q => h.run pins s σ H v u Q I r (i v σ H Q q)⟩
theorem PGs.imp {tg : List Expr} {t t' : TGs} (h : PGs X tg t) (i : ∀ v σ H Q, t' v σ H Q → t v σ H Q) : PGs X tg t' := ⟨fun pins s σ H v u Q I r q => h.run pins s σ H v u Q I r (i v σ H Q q)⟩
def tgName (i : Nat) : FTg := fun d δ Q => Q (δ.put i (some (false, d)))
theorem dtg_name {i : Nat} {x : Str} (hN : X.N.Nodup) (hi : X.N[i]? = some x) (hx : Loc X.env.scope x) (hf : X.fn x = true ∨ X.env.scope.names.lookup x = some .local := by first | exact .inl rfl | exact .inr rfl | assumption) : DTg X (.Name x pos) [i] (tgName i) :=
  PG.imp (pg_name hN hi hx hf) fun v σ H Q ⟨G, F, δ, d, Qd, eK, I, r, hg, k⟩ => k _ F _ H hg (I.put (r := (false, d)) r) (Ext.refl F H) (fun _ h => h) (fun _ => rfl) ⟨List.length_set, fun j h => List.getElem?_set_ne (fun z => h (by simp [z])), fun j e h => by
    by_cases z : i = j
    · subst z
      by_cases hl : i < δ.sl.length
      · unfold Dst.put at h; rw [List.getElem?_set_self hl] at h; cases h
      · unfold Dst.put at h; rw [List.getElem?_eq_none (by simpa using hl)] at h; cases h
    · unfold Dst.put at h; rw [List.getElem?_set_ne z] at h; exact ⟨by simpa using fun q => z q.symm, h⟩⟩
abbrev FTgs := List D → Dst → (Dst → Prop) → Prop
def rdTgs (K : KF) (ws : List Nat) (g : FTgs) : TGs := fun vs σ H Q => ∃ (G : Gd) (F : FS) (δ : Dst) (ds : List D) (Qd : Dst → Prop), G.K = K ∧ Hold G F δ σ H ∧ RepAll G.K G.pa F H vs ds ∧ g ds δ Qd ∧
  ∀ δ' F' σ' H', Qd δ' → Hold G F' δ' σ' H' → Ext F H F' H' → (∀ a, F' a → F a) → (∀ a, H' a = H a) → TgS ws δ σ δ' σ' → Q σ' H'
def DTgs (X : Cx) (tgs : List Expr) (ws : List Nat) (g : FTgs) : Prop := PGs X tgs (rdTgs X.K ws g)
def tgsNil : FTgs := fun ds δ Q => match ds with
  | [] => Q δ
  | _ => False
def tgsCons (f : FTg) (g : FTgs) : FTgs := fun ds δ Q => match ds with
  | d :: r => f d δ fun δ1 => g r δ1 Q
  | [] => False
theorem dtgs_nil : DTgs X [] [] tgsNil := PGs.imp pgs_nil fun vs σ H Q ⟨G, F, δ, ds, Qd, eK, I, r, hg, k⟩ => by
  cases r with
  | nil => exact ⟨rfl, k δ F σ H hg I (Ext.refl F H) (fun _ h => h) (fun _ => rfl) ⟨rfl, fun _ _ => rfl, fun _ _ h => ⟨by simp, h⟩⟩⟩
  | cons _ _ => exact hg.elim
theorem dtgs_cons {f : FTg} {g : FTgs} {us ws : List Nat} (h1 : DTg X e us f) (h2 : DTgs X es ws g) (hs : (assignEach (e :: es) X.env).map (·.2) = assign e X.env :: (assignEach es X.env).map (·.2) := by rfl) : DTgs X (e :: es) (us ++ ws) (tgsCons f g) :=
  PGs.imp (pgs_cons h1 h2 hs) fun vs σ H Q ⟨G, F, δ, ds, Qd, eK, I, r, hg, k⟩ => by
    cases r with
    | nil => exact hg.elim
    | @cons v vs d ds r t =>
      exact ⟨v, vs, rfl, G, F, δ, d, _, eK, I, r, hg, fun δ1 F1 σ1 H1 q1 I1 e1 f1 g1 s1 => ⟨G, F1, δ1, ds, Qd, eK, I1, t.ext e1, q1, fun δ2 F2 σ2 H2 q2 I2 e2 f2 g2 s2 => k δ2 F2 σ2 H2 q2 I2 (e1.trans e2) (fun a h => f1 a (f2 a h)) (fun a => (g2 a).trans (g1 a)) (s1.append s2)⟩⟩
/-- (a, b, ..) = a tuple or a list -/
def tgSeq (g : FTgs) : FTg := fun d δ Q => match d with
  | .tup ds => g ds δ Q
  | .lst ds => g ds δ Q
  | _ => False
theorem tgs_len {tgs : List Expr} {g : FTgs} (hl : ∀ ds δ Q, g ds δ Q → ds.length = tgs.length) {ds : List D} {δ : Dst} {Q : Dst → Prop} (h : g ds δ Q) : ds.length = tgs.length := hl ds δ Q h
theorem dtg_seq {kk : Nat} {g : FTgs} {n : Nat} {ws : List Nat} (hc : X.calm = true) (h : DTgs X es ws g) (hl : ∀ ds δ Q, g ds δ Q → ds.length = n) (hn : (assignEach es X.env).length = n := by rfl) (hst : (assignEach es X.env).findIdx? (·.1) = none := by rfl) : DTg X (.Tuple es kk pos) ws (tgSeq g) := by
  have p1 := pg_tup (pos := pos) (k := kk) hc h hn hst
  have p2 := pg_lst (pos := pos) (k := kk) hc h hn hst
  refine ⟨fun pins s σ H v u Q I r q => ?_⟩
  obtain ⟨G, F, δ, d, Qd, eK, I', rd, hg, k⟩ := q
  cases rd with
  | tup hq ra => exact p1.run pins s σ H _ u Q I r ⟨_, _, rfl, eK ▸ hq.sq, by rw [ra.len]; exact hl _ _ _ hg, G, F, δ, _, Qd, eK, I', ra, hg, k⟩
  | lst hq ra => exact p2.run pins s σ H _ u Q I r ⟨_, _, rfl, eK ▸ hq.sq, by rw [ra.len]; exact hl _ _ _ hg, G, F, δ, _, Qd, eK, I', ra, hg, k⟩
  | _ => exact hg.elim
/-- target = value -/
def sAsg (f : FX D) (g : FTg) : FSt := fun Ed D δ => f Ed δ fun d δ' => g d δ' D.nx
theorem ds_asg {tg : Expr} {f : FX D} {g : FTg} {ws : List Nat} (he : DG X E e f) (hg : DTg X tg ws g) (hs : swapsWithSole [tg] e pos.line X.env = pure false := by rfl) (hw : swappedStores [tg] e X.env = pure none := by rfl)
    (h1 : (assignEach [tg] X.env).map (·.2) = [assign tg X.env] := by rfl) : DSt X E (.Assign [tg] e pos) (sAsg f g) :=
  PS.imp (ps_asg he hg hs hw h1) fun D σ H ⟨G, F, δ, Dd, Ed, eK, I, hf, hx, k⟩ => ⟨G, F, δ, _, Ed, eK, I, hf, hx, fun d δ' F' H' v q I' e' r' =>
    ⟨G, F', δ', d, Dd.nx, eK, I', r', q, fun δ2 F2 σ2 H2 q2 I2 _ _ _ _ => k.nx δ2 F2 σ2 H2 q2 I2⟩⟩
/-- lists of values, some of one's own -/
def okOs : Okr (List V) (List (Bool × D)) := fun G Hp F H σ δ vs rs => Paired (fun v r => okO G Hp F H σ δ v r) vs rs ∧ ∀ (i j : Nat) (a : Addr) (x y : D), i < j → rs[i]? = some (true, x) → rs[j]? = some (true, y) → vs[i]? = some (.ref a) → vs[j]? = some (.ref a) → False
def DOs (X : Cx) (E : XK) (es : List Expr) (f : FX (List (Bool × D))) : Prop := PA X es (rdA X.K E okOs f)
theorem dos_nil : DOs X E [] aNil := PA.imp pa_nil fun σ H Q ⟨G, F, δ, Qd, Ed, eK, I, hf, hx, k⟩ => k [] δ F H [] hf I Stp.refl ⟨.nil, fun i j a x y _ h => by simp at h⟩
theorem paired_getO {G : Gd} {Hp0 : Hp} {F : FS} {H : Hp} {σ : L2.St} {δ : Dst} : ∀ {vs : List V} {rs : List (Bool × D)} {i : Nat} {r : Bool × D} {v : V}, Paired (fun v r => okO G Hp0 F H σ δ v r) vs rs → rs[i]? = some r → vs[i]? = some v → okO G Hp0 F H σ δ v r
  | _, _, _, _, _, .nil, h, _ => by simp at h
  | _, _, 0, _, _, .cons k _, h, h' => by simp at h h'; subst h; subst h'; exact k
  | _, _, i + 1, r, v, .cons _ t, h, h' => paired_getO (i := i) t (by simpa using h) (by simpa using h')
theorem paired_pre {G : Gd} {Hp0 Hp1 : Hp} {F : FS} {H : Hp} {σ : L2.St} {δ : Dst} (hh : ∀ a, Hp0 a ≠ none → Hp1 a ≠ none) : ∀ {vs : List V} {rs : List (Bool × D)}, Paired (fun v r => okO G Hp1 F H σ δ v r) vs rs → Paired (fun v r => okO G Hp0 F H σ δ v r) vs rs
  | _, _, .nil => .nil
  | _, _, .cons k t => .cons ⟨k.1, fun w a ha => Classical.byContradiction fun n => hh a n (k.2 w a ha)⟩ (paired_pre hh t)
theorem dos_cons {f : FX (Bool × D)} {g : FX (List (Bool × D))} (ha : DO X E e f) (hr : DOs X E es g) (hs : starEach (e :: es) X.env = (false, eval e X.env) :: starEach es X.env := by rfl) : DOs X E (e :: es) (aCons f g) :=
  PA.imp (pa_cons ha hr hs) fun σ H Q ⟨G, F, δ, Qd, Ed, eK, I, hf, hx, k⟩ =>
    ⟨G, F, δ, _, Ed, eK, I, hf, hx, fun r δ1 F1 H1 v q1 I1 e1 r1 => ⟨G, F1, δ1, _, Ed, eK, I1, q1, hx, fun rs δ2 F2 H2 vs q2 I2 e2 r2 => by
      refine k (r :: rs) δ2 F2 H2 (v :: vs) q2 I2 (e1.trans e2) ⟨.cons ⟨Res.step e2 r1.1, r1.2⟩ (paired_pre e1.trk r2.1), fun i j a x y hij h1 h2 h3 h4 => ?_⟩
      cases j with
      | zero => exact absurd hij (Nat.not_lt_zero _)
      | succ j =>
        cases i with
        | zero =>
          simp at h1 h3 h2 h4
          subst h1 h3
          have k2 := paired_getO r2.1 h2 h4
          have n1 := k2.2 rfl a rfl
          obtain ⟨a', ea, o, _⟩ := r1.1
          cases ea
          exact o.at_.trk n1
        | succ i => exact r2.2 i j a x y (by omega) (by simpa using h1) (by simpa using h2) (by simpa using h3) (by simpa using h4)⟩⟩
/-- a, b = x, y (plain local names) -/
def sPar (i j : Nat) (f : FX (List (Bool × D))) : FSt := fun Ed D δ => f Ed δ fun rs δ' => match rs with
  | [r, t] => D.nx ((δ'.put i (some r)).put j (some t))
  | _ => False
theorem Res.putOther {G : Gd} {F : FS} {H : Hp} {σ : L2.St} {δ : Dst} {v u : V} {r t : Bool × D} {i : Nat} (kr : Res G F H σ δ v r) (kt : Res G F H σ δ u t) (hn : ∀ (a : Addr) (x y : D), r = (true, x) → t = (true, y) → v = .ref a → u = .ref a → False) (hl : δ.sl.length = σ.length) :
    Res G F H (σ.set i (some v)) (δ.put i (some r)) u t := by
  obtain ⟨b, d⟩ := t
  cases b with
  | false => exact kt
  | true =>
    obtain ⟨a, e, o, n⟩ := kt
    refine ⟨a, e, o, fun j x q z => ?_⟩
    by_cases hj : i = j
    · subst hj
      by_cases hi : i < δ.sl.length
      · unfold Dst.put at q
        rw [List.getElem?_set_self hi] at q
        cases q
        rw [List.getElem?_set_self (by omega)] at z
        have z' : v = .ref a := by simpa using z
        exact hn a x d rfl rfl z' e
      · unfold Dst.put at q
        rw [List.getElem?_eq_none (by simpa using hi)] at q
        cases q
    · unfold Dst.put at q
      rw [List.getElem?_set_ne hj] at q
      rw [List.getElem?_set_ne hj] at z
      exact n j x q z
theorem ds_par {i j : Nat} {x y : Str} {f : FX (List (Bool × D))} {px py pt : Pos} {kt k2 pt2} (hc : X.calm = true) (hN : X.N.Nodup) (hi : X.N[i]? = some x) (hj : X.N[j]? = some y) (hij : i ≠ j)
    (hx : X.env.scope.names.lookup x = some .local) (hy : X.env.scope.names.lookup y = some .local) (ha : DOs X E [a, b] f)
    (hw : swappedStores [.Tuple [.Name x px, .Name y py] kt pt] (.Tuple [a, b] k2 pt2) X.env = pure (some [x, y]))
    (hs : swapsWithSole [.Tuple [.Name x px, .Name y py] kt pt] (.Tuple [a, b] k2 pt2) pos.line X.env = pure false := by rfl) :
    DSt X E (.Assign [.Tuple [.Name x px, .Name y py] kt pt] (.Tuple [a, b] k2 pt2) pos) (sPar i j f) :=
  PS.imp (ps_par hc hN hi hj hij hx hy ha hw hs) fun D σ H ⟨G, F, δ, Dd, Ed, eK, I, hf, hx, k⟩ => ⟨G, F, δ, _, Ed, eK, I, hf, hx, fun rs δ' F' H' vs q I' e' r' => by
    obtain ⟨p, hd⟩ := r'
    match rs, vs, p, q with
    | [r, t], [v, u], .cons kr (.cons kt .nil), q =>
      refine ⟨v, u, rfl, k.nx _ F' _ H' q ?_⟩
      exact (I'.put kr.1).put (Res.putOther kr.1 kt.1 (fun a x y e1 e2 e3 e4 => hd 0 1 a x y (by omega) (by simp [e1]) (by simp [e2]) (by simp [e3]) (by simp [e4])) I'.len)⟩

/-! ### while -/
def sWhile (t : FX Bool) (body : FSt) : FSt := fun Ed D δ => ∃ W : Nat → Dst → Prop, (∃ m, W m δ) ∧ ∀ m δ, W m δ → t Ed δ fun b δ1 => match b with
  | true => body Ed ⟨fun δ' => ∃ m', m' < m ∧ W m' δ', D.rt, D.nx, fun δ' => ∃ m', m' < m ∧ W m' δ'⟩ δ1
  | false => D.nx δ1
theorem ds_while {t : FX Bool} {body : List Stmt} {f : FSt} (hp : PassesOwn (model X.prog X.w) X.A X.env X.xe) (hc : DT X E c t) (hb : DSs X E body f) : DSt X E (.While c body [] pos) (sWhile t f) :=
  PS.imp (ps_while hp hc hb) fun D σ H ⟨G, F, δ, Dd, Ed, eK, I, hf, hx, k⟩ => by
    obtain ⟨W, ⟨m0, w0⟩, turn⟩ := hf
    refine ⟨fun m σ' H' => ∃ F' δ', Hold G F' δ' σ' H' ∧ W m δ', ⟨m0, F, δ, I, w0⟩, ?_⟩
    rintro m σ1 H1 ⟨F1, δ1, I1, w1⟩
    refine ⟨G, F1, δ1, _, Ed, eK, I1, turn m δ1 w1, hx, fun b δ2 F2 H2 v q I2 e2 r2 => ?_⟩
    have r3 : v = b := r2
    subst r3
    cases v with
    | false => exact k.nx δ2 F2 σ1 H2 q I2
    | true =>
      show (if true = true then _ else _)
      rw [if_pos rfl]
      refine ⟨fun σ' H' => ∃ m', m' < m ∧ ∃ F' δ', Hold G F' δ' σ' H' ∧ W m' δ', fun σ' H' ⟨m', hm, r⟩ => ⟨m', hm, r⟩, G, F2, δ2, _, Ed, eK, I2, q, hx, ?_⟩
      exact ⟨fun δ' F' σ' H' ⟨m', hm, w⟩ I' => ⟨m', hm, F', δ', I', w⟩, k.rt, k.nx, fun δ' F' σ' H' ⟨m', hm, w⟩ I' => ⟨m', hm, F', δ', I', w⟩⟩

/-! ### what is walked -/
/-- an iterator that yields what stands for these data -/
structure ItOk (K : KF) (pa : Option Addr) (J : It) (items : List D) (F : FS) (H : Hp) : Prop where
  go : ∀ (i : Nat) (F' : FS) (H' : Hp), Ext F H F' H' → (∀ a, F' a → H' a ≠ none) → i < items.length → J.go i H'
  yld : ∀ (i : Nat) (d : D) (F' : FS) (H' : Hp) (v : V) (H2 : Hp), Ext F H F' H' → (∀ a, F' a → H' a ≠ none) → items[i]? = some d → J.yld i H' v H2 →
    (H2 = H' ∧ Rep K pa F' H' v d) ∨ ∃ p o, H' p = none ∧ H2 = upd H' p o ∧ ∀ F3 H3, Ext F' H' F3 H3 → F3 p → H3 p = some o → Rep K pa F3 H3 v d
  stop : ∀ (F' : FS) (H' : Hp), Ext F H F' H' → (∀ a, F' a → H' a ≠ none) → J.stop items.length H'
theorem ItOk.ext {K : KF} {pa : Option Addr} {J : It} {items : List D} {F F1 : FS} {H H1 : Hp} (h : ItOk K pa J items F H) (e : Ext F H F1 H1) : ItOk K pa J items F1 H1 :=
  ⟨fun i F' H' e' t => h.go i F' H' (e.trans e') t, fun i d F' H' v H2 e' t => h.yld i d F' H' v H2 (e.trans e') t, fun F' H' e' t => h.stop F' H' (e.trans e') t⟩
def rdI (K : KF) (E : XK) (f : FX (List D)) : TI := fun σ H R => ∃ (G : Gd) (F : FS) (δ : Dst) (Qd : List D → Dst → Prop) (Ed : EdT), G.K = K ∧ Hold G F δ σ H ∧ f Ed δ Qd ∧ XOk G E Ed ∧
  ∀ items δ' F' H' J, Qd items δ' → Hold G F' δ' σ H' → Stp G σ δ F H δ' F' H' → ItOk G.K G.pa J items F' H' → R J H'
def DI (X : Cx) (E : XK) (tg iter : Expr) (f : FX (List D)) : Prop := PI X tg iter (rdI X.K E f)
theorem PI.imp {tg iter : Expr} {t t' : TI} (h : PI X tg iter t) (i : ∀ σ H R, t' σ H R → t σ H R) : PI X tg iter t' := ⟨fun pins s σ H R I q => h.run pins s σ H R I (i σ H R q)⟩
/-- what an item becomes: frozen -/
theorem item_frz {G : Gd} {F : FS} {δ : Dst} {σ : L2.St} {H H2 : Hp} {v : V} {d : D} (I : Hold G F δ σ H)
    (h : (H2 = H ∧ Rep G.K G.pa F H v d) ∨ ∃ p o, H p = none ∧ H2 = upd H p o ∧ ∀ F3 H3, Ext F H F3 H3 → F3 p → H3 p = some o → Rep G.K G.pa F3 H3 v d) :
    ∃ F2, Hold G F2 δ σ H2 ∧ Stp G σ δ F H δ F2 H2 ∧ Rep G.K G.pa F2 H2 v d := by
  rcases h with ⟨e, r⟩ | ⟨p, o, hp, e, r⟩
  · subst e; exact ⟨F, I, Stp.refl, r⟩
  · subst e
    obtain ⟨p0, np, nf⟩ := I.bas.free hp
    have I1 := I.alloc (o := o) hp
    have I2 : Hold G (frz1 F p) δ σ (upd H p o) := I1.frz p0 np (by rw [upd_same]; simp) fun i e q z => by
      obtain ⟨a, q1, q2⟩ := I.own i e q
      rw [z] at q1
      cases q1
      exact q2.at_.trk hp
    have s : Stp G σ δ F H δ (frz1 F p) (upd H p o) := ⟨(I.allocE hp).trans (Ext.frz1 F _ p), fun _ e h => ⟨e, h⟩, (Stp.alloc I hp).kp, fun a f => f.elim .inl fun z => by subst z; exact .inr (.inl hp), (Stp.alloc I hp).trk⟩
    exact ⟨_, I2, s, r _ _ s.ext (.inr rfl) upd_same⟩
end
/-! ### a later entry: what is frozen then stays -/
open Classical in
noncomputable def Gd.at (G : Gd) (F : FS) (H : Hp) : Gd := ⟨G.K, F, fun b => if G.H0 b ≠ none ∨ F b then H b else none, G.pa⟩
section
variable {G : Gd} {F F' : FS} {H H' : Hp} {σ σ' : L2.St} {δ δ' : Dst} {n m : Nat}
theorem at_some {b : Addr} {o : HO} (h : (G.at F H).H0 b = some o) : (G.H0 b ≠ none ∨ F b) ∧ H b = some o := by
  unfold Gd.at at h
  dsimp only at h
  split at h
  · rename_i c; exact ⟨c, h⟩
  · cases h
theorem at_none {b : Addr} (h : (G.at F H).H0 b = none) (B : Bas G F H n) (np : G.off b) : G.H0 b = none := by
  cases e : G.H0 b with
  | none => rfl
  | some o =>
    unfold Gd.at at h
    dsimp only at h
    rw [if_pos (.inl (by rw [e]; simp)), B.old b o e np] at h
    cases h
theorem at_eq {b : Addr} (h : G.H0 b ≠ none ∨ F b) : (G.at F H).H0 b = H b := by
  unfold Gd.at
  dsimp only
  rw [if_pos h]
theorem at_no {b : Addr} (h : ¬ (G.H0 b ≠ none ∨ F b)) : (G.at F H).H0 b = none := by
  unfold Gd.at
  dsimp only
  rw [if_neg h]
theorem PenOk.trk {p : Addr} (h : PenOk G.pa F H n) (hp : G.pa = some p) : H p ≠ none ∧ ¬ F p := by
  unfold PenOk at h
  rw [hp] at h
  obtain ⟨nf, c, ns, a, r, h1, _⟩ := h
  exact ⟨by rw [h1]; simp, nf⟩
theorem offAt {b : Addr} : (G.at F H).off b ↔ G.off b := ⟨fun h => ⟨h.pen, h.tab⟩, fun h => ⟨h.pen, h.tab⟩⟩
theorem Bas.at (B : Bas G F H n) : Bas (G.at F H) F H n :=
  ⟨fun _ h => h, fun _ h => .inl h, fun b o h _ => (at_some h).2, B.trk, B.pen, B.tab⟩
theorem Bas.offF (B : Bas G F H n) {a : Addr} (f : F a) : G.off a := ⟨fun hp => (PenOk.trk (G := G) B.pen hp).2 f, fun p hp z => (B.tab.trk hp).2 (by rw [z]; exact f)⟩
theorem Bas.unat (B : Bas G F H n) (C : Bas (G.at F H) F' H' m) : Bas G F' H' m := by
  refine ⟨fun a h => C.sub a (B.sub a h), fun a h => ?_, fun b o h np => C.old b o ?_ (offAt.mpr np), C.trk, C.pen, C.tab⟩
  · rcases C.new a h with f | f
    · exact B.new a f
    · exact .inr (at_none f B (offAt.mp (Bas.offF C h)))
  · rw [at_eq (.inl (by rw [h]; simp))]
    exact B.old b o h np
theorem Bas.atExt (B : Bas G F H n) (C : Bas (G.at F H) F' H' m) : Ext F H F' H' :=
  ⟨C.sub, fun a o f e => C.old a o (by rw [at_eq (.inr f)]; exact e) (offAt.mpr (B.offF f))⟩
theorem Hold.at (I : Hold G F δ σ H) : Hold (G.at F H) F δ σ H := by
  refine ⟨I.bas.at, I.len, I.fro, fun i d h => ?_, I.dis⟩
  obtain ⟨a, h1, h2⟩ := I.own i d h
  exact ⟨a, h1, h2.nf, at_no fun z => z.elim (fun z => z h2.n0) h2.nf, offAt.mpr h2.np, h2.at_⟩
theorem Hold.unat (B : Bas G F H n) (C : Hold (G.at F H) F' δ' σ' H') : Hold G F' δ' σ' H' := by
  refine ⟨B.unat C.bas, C.len, C.fro, fun i d h => ?_, C.dis⟩
  obtain ⟨a, h1, h2⟩ := C.own i d h
  exact ⟨a, h1, h2.nf, at_none h2.n0 B (offAt.mp h2.np), offAt.mp h2.np, h2.at_⟩
theorem XOk.at {E : XK} {Ed : EdT} (B : Bas G F H n) (x : XOk G E Ed) : XOk (G.at F H) E Ed := fun y F1 H1 m dx gs h C z e n r => x y F1 H1 m dx gs h (B.unat C) (at_none z B (offAt.mp (C.offX e))) e n r
theorem EndsOk.at {Dd : DEn} {D : Ends} (B : Bas G F H n) (k : EndsOk G Dd D) : EndsOk (G.at F H) Dd D :=
  ⟨fun δ F1 σ H1 q I => k.nx δ F1 σ H1 q (Hold.unat B I), fun d m F1 H1 v q C r => k.rt d m F1 H1 v q (B.unat C) r, fun δ F1 σ H1 q I => k.bk δ F1 σ H1 q (Hold.unat B I), fun δ F1 σ H1 q I => k.ct δ F1 σ H1 q (Hold.unat B I)⟩
end
section
variable {X : Cx} {E : XK} {e a b c : Expr} {es : List Expr} {pos : Pos} {st : Stmt} {rest : List Stmt}
/-! ### for -/
def forL (tg : FTg) (body : DEn → Dst → Prop) (N : DEn) : List D → Dst → Prop
  | [], δ => N.nx δ
  | x :: r, δ => tg x δ fun δ2 => body ⟨forL tg body N r, N.rt, N.nx, forL tg body N r⟩ δ2
def sFor (fi : FX (List D)) (tg : FTg) (body : FSt) : FSt := fun Ed D δ => fi Ed δ fun items δ1 => forL tg (body Ed) D items δ1
theorem ds_for {tg iter : Expr} {body : List Stmt} {fi : FX (List D)} {g : FTg} {f : FSt} {ws : List Nat} (hp : PassesOwn (model X.prog X.w) X.A X.env X.xe) (hc : X.calm = true) (hi : DI X E tg iter fi) (hg : DTg X tg ws g) (hb : DSs X E body f)
    (hs : ∀ x, foldedSetIterable iter X.env x = pure x := by intro _; rfl) : DSt X E (.For tg iter body [] pos) (sFor fi g f) :=
  PS.imp (ps_for hp hc hi hg hb hs) fun D σ H ⟨G, F, δ, Dd, Ed, eK, I, hf, hx, k⟩ => by
    refine ⟨G, F, δ, _, Ed, eK, I, hf, hx, fun items δ1 F1 H1 J q1 I1 e1 it => ?_⟩
    refine ⟨fun i m σ' H' => m = items.length - i ∧ i ≤ items.length ∧ ∃ F' δ', Hold G F' δ' σ' H' ∧ Ext F1 H1 F' H' ∧ forL g (f Ed) Dd (items.drop i) δ', ⟨items.length, by simp, Nat.zero_le _, F1, δ1, I1, Ext.refl _ _, by simpa using q1⟩, ?_⟩
    rintro i m σ2 H2 ⟨rfl, hil, F2, δ2, I2, e2, q2⟩
    by_cases hlt : i < items.length
    · obtain ⟨d, hd⟩ : ∃ d, items[i]? = some d := ⟨items[i], List.getElem?_eq_getElem hlt⟩
      have hdr : items.drop i = d :: items.drop (i + 1) := by
        rw [List.drop_eq_getElem_cons hlt]
        rw [List.getElem?_eq_getElem hlt] at hd
        rw [Option.some.inj hd]
      rw [hdr] at q2
      refine .inr ⟨it.go i F2 H2 e2 I2.bas.trk hlt, fun σ' H' => ∃ F' δ', Hold G F' δ' σ' H' ∧ Ext F1 H1 F' H' ∧ forL g (f Ed) Dd (items.drop (i + 1)) δ', ?_, fun x H3 y => ?_⟩
      · rintro σ' H' ⟨F', δ', h1, h2, h3⟩
        exact ⟨items.length - (i + 1), by omega, rfl, hlt, F', δ', h1, h2, h3⟩
      · obtain ⟨F3, I3, e3, r3⟩ := item_frz I2 (it.yld i d F2 H2 x H3 e2 I2.bas.trk hd y)
        have e13 : Ext F1 H1 F3 H3 := e2.trans e3.ext
        have B3 := I3.bas
        refine ⟨G.at F3 H3, F3, δ2, d, _, eK, I3.at, r3, q2, fun δ4 F4 σ4 H4 q4 I4 e4 _ _ _ => ?_⟩
        have step : ∀ {δ5 F5 σ5 H5}, Hold (G.at F3 H3) F5 δ5 σ5 H5 → Ext F1 H1 F5 H5 := fun I5 => e13.trans (B3.atExt I5.bas)
        have k3 := k.at B3
        exact ⟨G.at F3 H3, F4, δ4, _, Ed, eK, I4, q4, hx.at B3, ⟨fun δ5 F5 σ5 H5 q5 I5 => ⟨F5, δ5, Hold.unat B3 I5, step I5, q5⟩, k3.rt, k3.nx, fun δ5 F5 σ5 H5 q5 I5 => ⟨F5, δ5, Hold.unat B3 I5, step I5, q5⟩⟩⟩
    · have e : i = items.length := by omega
      subst e
      refine .inl ⟨it.stop F2 H2 e2 I2.bas.trk, ?_⟩
      rw [List.drop_length] at q2
      exact k.nx δ2 F2 σ2 H2 q2 I2
end
end DS
end
section
set_option maxRecDepth 100000
set_option maxHeartbeats 1000000
/-! DS3: comprehensions, calls of the text's own defs, a def's body, over data. -/
namespace DS
open PySem PySem.Spec PyProof.Rows L2

/-! ### slots forgotten -/
def wipeD (δ : Dst) : List Nat → Dst
  | [] => δ
  | v :: vs => (wipeD δ vs).put v none
theorem wipeD_n (δ : Dst) : ∀ vs : List Nat, (wipeD δ vs).n = δ.n
  | [] => rfl
  | v :: vs => by unfold wipeD; exact wipeD_n δ vs
theorem wipeD_len (δ : Dst) : ∀ vs : List Nat, (wipeD δ vs).sl.length = δ.sl.length
  | [] => rfl
  | v :: vs => by unfold wipeD Dst.put; rw [List.length_set]; exact wipeD_len δ vs
theorem wipeD_some {δ : Dst} {i : Nat} {r : Bool × D} : ∀ {vs : List Nat}, (wipeD δ vs).sl[i]? = some (some r) → i ∉ vs ∧ δ.sl[i]? = some (some r)
  | [], h => ⟨by simp, h⟩
  | v :: vs, h => by
    unfold wipeD Dst.put at h
    dsimp only at h
    by_cases hi : v = i
    · subst hi
      by_cases hv : v < (wipeD δ vs).sl.length
      · rw [List.getElem?_set_self hv] at h; cases h
      · rw [List.getElem?_eq_none (by simpa using hv)] at h; cases h
    · rw [List.getElem?_set_ne hi] at h
      obtain ⟨h1, h2⟩ := wipeD_some h
      exact ⟨fun z => by rcases List.mem_cons.mp z with z | z; exact hi z.symm; exact h1 z, h2⟩
theorem wipeD_out {δ : Dst} {i : Nat} : ∀ {vs : List Nat}, i ∉ vs → (wipeD δ vs).sl[i]? = δ.sl[i]?
  | [], _ => rfl
  | v :: vs, h => by
    unfold wipeD Dst.put
    dsimp only
    rw [List.getElem?_set_ne (fun z => h (by simp [z]))]
    exact wipeD_out fun z => h (List.mem_cons_of_mem _ z)
theorem wipe_eq {σ σ' : L2.St} {vs : List Nat} (hl : σ'.length = σ.length) (ho : ∀ j, j ∉ vs → σ'[j]? = σ[j]?) : wipe σ' vs = wipe σ vs := by
  have key : ∀ (vs : List Nat) (i : Nat), i ∈ vs → ∀ τ : L2.St, i < τ.length → (wipe τ vs)[i]? = some none := by
    intro vs
    induction vs with
    | nil => intro i h; simp at h
    | cons v vs ih =>
      intro i h τ hi
      unfold wipe
      by_cases e : v = i
      · subst e; rw [List.getElem?_set_self (by rw [wipe_length]; exact hi)]
      · rw [List.getElem?_set_ne e]
        exact ih i (by rcases List.mem_cons.mp h with z | z; exact absurd z.symm e; exact z) τ hi
  refine List.ext_getElem? fun i => ?_
  by_cases hi : i ∈ vs
  · by_cases hlt : i < σ.length
    · rw [key vs i hi σ' (by omega), key vs i hi σ hlt]
    · rw [List.getElem?_eq_none (by rw [wipe_length]; omega), List.getElem?_eq_none (by rw [wipe_length]; omega)]
  · rw [wipe_out hi, wipe_out hi]; exact ho i hi
section
variable {G : Gd} {F F' : FS} {H H' : Hp} {σ σ' : L2.St} {δ δ' : Dst}
theorem Hold.wipe (I : Hold G F δ σ H) (vs : List Nat) : Hold G F (wipeD δ vs) (L2.wipe σ vs) H := by
  refine ⟨by rw [wipeD_n]; exact I.bas, by rw [wipeD_len, wipe_length]; exact I.len, fun i d h => ?_, fun i d h => ?_, fun i j d e a hij h1 h2 h3 h4 => ?_⟩
  · obtain ⟨h1, h2⟩ := wipeD_some h
    rw [wipe_out h1]
    exact I.fro i d h2
  · obtain ⟨h1, h2⟩ := wipeD_some h
    rw [wipe_out h1]
    exact I.own i d h2
  · obtain ⟨k1, k2⟩ := wipeD_some h1
    obtain ⟨k3, k4⟩ := wipeD_some h2
    rw [wipe_out k1] at h3
    rw [wipe_out k3] at h4
    exact I.dis i j d e a hij k2 k4 h3 h4
/-- the step's view of the own objects may be a smaller one -/
theorem Stp.weak {δ2 : Dst} {σ2 : L2.St} (s : Stp G σ2 δ2 F H δ' F' H') (h : ∀ (i : Nat) (e : D), δ2.sl[i]? = some (some (true, e)) → (∃ e' : D, δ.sl[i]? = some (some (true, e'))) ∧ σ2[i]? = σ[i]?) : Stp G σ δ F H δ' F' H' :=
  ⟨s.ext, fun i e q => let ⟨e1, q1⟩ := s.own i e q; (h i e1 q1).1, fun a o q np n => s.kp a o q np fun i e q1 z => by
    obtain ⟨⟨e', q2⟩, q3⟩ := h i e q1
    exact n i e' q2 (by rw [← q3]; exact z), fun a f => by
    rcases s.fz a f with f | f | ⟨i, e, q1, z⟩
    · exact .inl f
    · exact .inr (.inl f)
    · obtain ⟨⟨e', q2⟩, q3⟩ := h i e q1
      exact .inr (.inr ⟨i, e', q2, by rw [← q3]; exact z⟩), s.trk⟩
/-- the slots' view may be narrowed behind the step -/
theorem Stp.to {δ2 : Dst} (s : Stp G σ δ F H δ' F' H') (h : ∀ (i : Nat) (e : D), δ2.sl[i]? = some (some (true, e)) → δ'.sl[i]? = some (some (true, e))) : Stp G σ δ F H δ2 F' H' :=
  ⟨s.ext, fun i e q => s.own i e (h i e q), s.kp, s.fz, s.trk⟩
/-- the comprehension's own names have what they had -/
def restore (δ0 δ : Dst) : List Nat → Dst
  | [] => δ
  | v :: vs => (restore δ0 δ vs).put v (match δ0.sl[v]? with
    | some (some (false, d)) => some (false, d)
    | _ => none)
theorem restore_n (δ0 δ : Dst) : ∀ vs : List Nat, (restore δ0 δ vs).n = δ.n
  | [] => rfl
  | v :: vs => by unfold restore; exact restore_n δ0 δ vs
theorem restore_len (δ0 δ : Dst) : ∀ vs : List Nat, (restore δ0 δ vs).sl.length = δ.sl.length
  | [] => rfl
  | v :: vs => by unfold restore Dst.put; rw [List.length_set]; exact restore_len δ0 δ vs
theorem restore_some {δ0 δ : Dst} {i : Nat} {r : Bool × D} : ∀ {vs : List Nat}, (restore δ0 δ vs).sl[i]? = some (some r) → (i ∉ vs ∧ δ.sl[i]? = some (some r)) ∨ (∃ d, r = (false, d) ∧ δ0.sl[i]? = some (some (false, d)))
  | [], h => .inl ⟨by simp, h⟩
  | v :: vs, h => by
    unfold restore Dst.put at h
    dsimp only at h
    by_cases hi : v = i
    · subst hi
      by_cases hv : v < (restore δ0 δ vs).sl.length
      · rw [List.getElem?_set_self hv] at h
        split at h
        · rename_i d q
          cases h
          exact .inr ⟨d, rfl, q⟩
        · cases h
      · rw [List.getElem?_eq_none (by simpa using hv)] at h; cases h
    · rw [List.getElem?_set_ne hi] at h
      rcases restore_some h with ⟨h1, h2⟩ | h1
      · exact .inl ⟨fun z => by rcases List.mem_cons.mp z with z | z; exact hi z.symm; exact h1 z, h2⟩
      · exact .inr h1
theorem Hold.restore {δ0 : Dst} {F0 : FS} {H0 : Hp} (I0 : Hold G F0 δ0 σ H0) (e : Ext F0 H0 F H) {vs : List Nat} (I : Hold G F δ (L2.wipe σ vs) H) (hw : ∀ (i : Nat) (r : Bool × D), δ.sl[i]? = some (some r) → i ∉ vs) : Hold G F (DS.restore δ0 δ vs) σ H := by
  have own' : ∀ (i : Nat) (d : D), (DS.restore δ0 δ vs).sl[i]? = some (some (true, d)) → i ∉ vs ∧ δ.sl[i]? = some (some (true, d)) := fun i d h => by
    rcases restore_some h with h | ⟨d', h1, _⟩
    · exact h
    · cases h1
  refine ⟨by rw [restore_n]; exact I.bas, by rw [restore_len, I.len, wipe_length], fun i d h => ?_, fun i d h => ?_, fun i j d e' a hij h1 h2 h3 h4 => ?_⟩
  · rcases restore_some h with ⟨h1, h2⟩ | ⟨d', h1, h2⟩
    · obtain ⟨v, q1, q2⟩ := I.fro i d h2
      rw [wipe_out h1] at q1
      exact ⟨v, q1, q2⟩
    · cases h1
      obtain ⟨v, q1, q2⟩ := I0.fro i _ h2
      exact ⟨v, q1, q2.ext e⟩
  · obtain ⟨h1, h2⟩ := own' i d h
    obtain ⟨a, q1, q2⟩ := I.own i d h2
    rw [wipe_out h1] at q1
    exact ⟨a, q1, q2⟩
  · obtain ⟨k1, k2⟩ := own' i d h1
    obtain ⟨k3, k4⟩ := own' j e' h2
    exact I.dis i j d e' a hij k2 k4 (by rw [wipe_out k1]; exact h3) (by rw [wipe_out k3]; exact h4)
end
/-! ### [elt for target in iter if ..] -/
abbrev ownIx (own : List (Str × Nat)) : List Nat := own.map (·.2)
abbrev NoE : EdT := fun _ _ => False
def lcL (tg : FTg) (tt : FX Bool) (te : FX D) (vs : List Nat) : List D → List D → Dst → (List D → Dst → Prop) → Prop
  | [], acc, δ, Q => Q acc δ
  | x :: r, acc, δ, Q => tg x (wipeD δ vs) fun δ1 => tt NoE δ1 fun b δ2 => match b with
    | true => te NoE δ2 fun y δ3 => acc.length < sizeLine ∧ lcL tg tt te vs r (acc ++ [y]) δ3 Q
    | false => lcL tg tt te vs r acc δ2 Q
def fLc (fi : FX (List D)) (tg : FTg) (tt : FX Bool) (te : FX D) (vs : List Nat) : FX (Bool × D) := fun Ed δ Q => fi Ed δ fun items δ1 =>
  lcL tg tt te vs items [] δ1 fun ys δ2 => Q (true, .lst ys) (restore δ1 (wipeD δ2 vs) vs)
def DTs (X : Cx) (E : XK) (ifs : List Expr) (f : FX Bool) : Prop := PTs X ifs (rdA X.K E okT f)
def fYes : FX Bool := fun _ δ Q => Q true δ
theorem dts_nil {X : Cx} {E : XK} : DTs X E [] fYes := ⟨fun pins s σ H Q I h => by
  obtain ⟨G, F, δ, Qd, Ed, eK, I', hf, hx, k⟩ := h
  exact pts_nil.run pins s σ H Q I (k true δ F H true hf I' Stp.refl rfl)⟩
theorem dts_one {X : Cx} {E : XK} {c : Expr} {f : FX Bool} (h : DT X E c f) : DTs X E [c] f := pts_one h
/-- a temporary by another state of the slots -/
theorem Res.slots {G : Gd} {F : FS} {H : Hp} {σ σ' : L2.St} {δ δ' : Dst} {v : V} {r : Bool × D} (k : Res G F H σ δ v r) (h : ∀ (i : Nat) (e : D), δ'.sl[i]? = some (some (true, e)) → (∃ e' : D, δ.sl[i]? = some (some (true, e'))) ∧ σ'[i]? = σ[i]?) : Res G F H σ' δ' v r := by
  obtain ⟨b, d⟩ := r
  cases b with
  | false => exact k
  | true =>
    obtain ⟨a, e, o, n⟩ := k
    refine ⟨a, e, o, fun i x q z => ?_⟩
    obtain ⟨⟨e', q1⟩, q2⟩ := h i x q
    exact n i e' q1 (by rw [← q2]; exact z)
/-- the temporary list grows -/
theorem Res.grow {G : Gd} {F : FS} {H : Hp} {σ : L2.St} {δ : Dst} {p : Addr} {acc : List D} {y : V} {d : D} (I : Hold G F δ σ H) (k : Res G F H σ δ (.ref p) (true, .lst acc)) (r : Rep G.K G.pa F H y d) :
    ∃ vs, H p = some (.lst vs) ∧ vs.length = acc.length ∧ Hold G F δ σ (upd H p (.lst (vs ++ [y]))) ∧ Ext F H F (upd H p (.lst (vs ++ [y]))) ∧ Res G F (upd H p (.lst (vs ++ [y]))) σ δ (.ref p) (true, .lst (acc ++ [d])) ∧
      (∀ a, a ≠ p → upd H p (.lst (vs ++ [y])) a = H a) := by
  obtain ⟨a, e, o, n⟩ := k
  cases e
  obtain ⟨vs, h1, h2⟩ := o.at_
  have e : Ext F H F (upd H p (.lst (vs ++ [y]))) := ⟨fun _ f => f, fun b u f q => by rw [upd_ne (fun z => by subst z; exact o.nf f)]; exact q⟩
  refine ⟨vs, h1, h2.len, ?_, e, ⟨p, rfl, ⟨o.nf, o.n0, o.np, _, upd_same, (h2.ext e).append (.cons (r.ext e) .nil)⟩, n⟩, fun b hb => upd_ne hb⟩
  refine ⟨⟨I.bas.sub, I.bas.new, fun b u q1 q2 => ?_, fun b f => ?_, I.bas.pen.ext e fun q hq => ⟨upd_ne fun z => ?_, fun f => ?_⟩, I.bas.tab.ext e fun q hq => ⟨upd_ne fun z => o.np.tab q hq z, (I.bas.tab.trk hq).2⟩⟩, I.len, fun i x q => ?_, fun i x q => ?_, I.dis⟩
  · rw [upd_ne (fun z => by subst z; rw [o.n0] at q1; cases q1)]; exact I.bas.old b u q1 q2
  · rw [upd_ne (fun z => by subst z; exact o.nf f)]; exact I.bas.trk b f
  · subst z; exact o.np.pen hq
  · exact (PenOk.trk (G := G) I.bas.pen hq).2 f
  · obtain ⟨v, q1, q2⟩ := I.fro i x q
    exact ⟨v, q1, q2.ext e⟩
  · obtain ⟨b, q1, q2⟩ := I.own i x q
    refine ⟨b, q1, q2.ext e (upd_ne fun z => ?_) q2.nf⟩
    subst z
    exact n i x q q1
section
variable {X : Cx} {E : XK} {e a b c : Expr} {es : List Expr} {pos : Pos}
theorem rd_lc {fi : FX (List D)} {tg : FTg} {tt : FX Bool} {te : FX D} {vs : List Nat} {σ : L2.St} {H : Hp} {Q : VK} (h : rdA X.K E okO (fLc fi tg tt te vs) σ H Q) :
    tLc (rdI X.K E fi) (rdTg X.K vs tg) (rdA X.K E0 okT tt) (rdA X.K E0 okG te) vs σ H Q := by
  obtain ⟨G, F, δ, Qd, Ed, eK, I, hf, hx, k⟩ := h
  refine ⟨G, F, δ, _, Ed, eK, I, hf, hx, fun items δ1 F1 H1 J q1 I1 s1 it => fun p hp => ?_⟩
  obtain ⟨p0, np, nf⟩ := I1.bas.free hp
  have fin : ∀ {r δ' F' H' v}, Qd r δ' → Hold G F' δ' σ H' → Stp G σ δ1 F1 H1 δ' F' H' → okO G H1 F' H' σ δ' v r → Q v H' := fun {r δ' F' H' v} q I' s o => k r δ' F' H' v q I' (s1.trans s) ⟨o.1, fun w a ha => Classical.byContradiction fun n => s1.trk a n (o.2 w a ha)⟩
  -- the turns' invariant
  let P : Nat → Hp → Prop := fun i H' => ∃ (F' : FS) (δ' : Dst) (acc : List D), Hold G F' (wipeD δ' vs) (wipe σ vs) H' ∧ Stp G σ δ1 F1 H1 (wipeD δ' vs) F' H' ∧ Res G F' H' (wipe σ vs) (wipeD δ' vs) (.ref p) (true, .lst acc) ∧
    lcL tg tt te vs (items.drop i) acc δ' fun ys δ2 => Qd (true, .lst ys) (restore δ1 (wipeD δ2 vs) vs)
  refine ⟨fun i m H' => m = items.length - i ∧ i ≤ items.length ∧ P i H', ⟨items.length, by simp, Nat.zero_le _, F1, δ1, [], ?_, ?_, ?_, by simpa using q1⟩, ?_⟩
  · exact (I1.alloc hp).wipe vs
  · exact (Stp.alloc I1 hp).to fun i e q => (wipeD_some q).2
  · refine ⟨p, rfl, ⟨nf, p0, np, [], upd_same, .nil⟩, fun i e q z => ?_⟩
    obtain ⟨q1, q2⟩ := wipeD_some q
    rw [wipe_out q1] at z
    obtain ⟨b, h1, h2⟩ := I1.own i e q2
    rw [z] at h1
    cases h1
    exact h2.at_.trk hp
  · rintro i m H2 ⟨rfl, hil, F2, δ2, acc, I2, s2, r2, q2⟩
    by_cases hlt : i < items.length
    · obtain ⟨d, hd⟩ : ∃ d, items[i]? = some d := ⟨items[i], List.getElem?_eq_getElem hlt⟩
      have hdr : items.drop i = d :: items.drop (i + 1) := by
        rw [List.drop_eq_getElem_cons hlt]
        rw [List.getElem?_eq_getElem hlt] at hd
        rw [Option.some.inj hd]
      rw [hdr] at q2
      have q2' : tg d (wipeD δ2 vs) fun δ1' => tt NoE δ1' fun b δ2' => match b with
        | true => te NoE δ2' fun y δ3 => acc.length < sizeLine ∧ lcL tg tt te vs (items.drop (i + 1)) (acc ++ [y]) δ3 fun ys δ2 => Qd (true, .lst ys) (restore δ1 (wipeD δ2 vs) vs)
        | false => lcL tg tt te vs (items.drop (i + 1)) acc δ2' fun ys δ2 => Qd (true, .lst ys) (restore δ1 (wipeD δ2 vs) vs) := q2
      refine .inr ⟨it.go i F2 H2 s2.ext I2.bas.trk hlt, P (i + 1), fun H' w => ⟨items.length - (i + 1), by omega, rfl, hlt, w⟩, fun x H3 y => ?_⟩
      obtain ⟨F3, I3, s3, r3⟩ := item_frz I2 (it.yld i d F2 H2 x H3 s2.ext I2.bas.trk hd y)
      have t3 := Res.step s3 r2
      refine ⟨G, F3, wipeD δ2 vs, d, _, eK, I3, r3, q2', fun δ4 F4 σ4 H4 q4 I4 e4 f4 g4 ts => ?_⟩
      have hw : wipe σ4 vs = wipe σ vs := by
        have hw1 : wipe σ4 vs = wipe (wipe σ vs) vs := wipe_eq ts.len ts.off
        rw [hw1]
        exact wipe_eq (wipe_length σ vs) fun j hj => wipe_out hj
      have sub4 : ∀ (j : Nat) (e : D), δ4.sl[j]? = some (some (true, e)) → (∃ e' : D, (wipeD δ2 vs).sl[j]? = some (some (true, e'))) ∧ σ4[j]? = (wipe σ vs)[j]? := fun j e h => by
        obtain ⟨h1, h2⟩ := ts.own j e h
        exact ⟨⟨e, h2⟩, ts.off j h1⟩
      -- the temporary behind the target
      have t4 : Res G F4 H4 σ4 δ4 (.ref p) (true, .lst acc) := by
        refine Res.slots ?_ sub4
        obtain ⟨a, ea, o, n⟩ := t3
        exact ⟨a, ea, o.ext e4 (g4 a) (fun f => o.nf (f4 a f)), n⟩
      refine ⟨hw, ?_⟩
      -- steps from the loop's start
      have base4 : ∀ {δ' F' H'}, Stp G σ4 δ4 F4 H4 δ' F' H' → Stp G σ δ1 F1 H1 (wipeD δ' vs) F' H' := fun {δ' F' H'} s => by
        have a1 : Stp G (wipe σ vs) (wipeD δ2 vs) F2 H2 δ' F' H' := by
          have b1 : Stp G (wipe σ vs) (wipeD δ2 vs) F3 H3 δ4 F4 H4 := ⟨e4, fun i e q => (sub4 i e q).1, fun b u q _ _ => by rw [g4]; exact q, fun b f => .inl (f4 b f), fun b h => by rw [g4]; exact h⟩
          have b2 : Stp G (wipe σ vs) (wipeD δ2 vs) F4 H4 δ' F' H' := s.weak sub4
          have b3 : Stp G (wipe σ vs) (wipeD δ2 vs) F3 H3 (wipeD δ2 vs) F4 H4 := ⟨e4, fun i e q => ⟨e, q⟩, fun b u q _ _ => by rw [g4]; exact q, fun b f => .inl (f4 b f), fun b h => by rw [g4]; exact h⟩
          exact s3.trans (b3.trans b2)
        have a2 : Stp G σ (wipeD δ2 vs) F2 H2 δ' F' H' := a1.weak fun i e q => by
          obtain ⟨h1, h2⟩ := wipeD_some q
          exact ⟨⟨e, q⟩, wipe_out h1⟩
        exact (s2.trans a2).to fun i e q => (wipeD_some q).2
      refine ⟨G, F4, δ4, _, NoE, eK, I4, q4, XOk.none, fun bb δ5 F5 H5 v q5 I5 s5 r5 => ?_⟩
      have r5' : v = bb := r5
      subst r5'
      have t5 := Res.step s5 t4
      have again : ∀ {δ' F' H'}, Hold G F' δ' σ4 H' → Hold G F' (wipeD δ' vs) (wipe σ vs) H' := fun {δ' F' H'} I' => by
        rw [← hw]; exact I'.wipe vs
      have tw : ∀ {δ' F' H' r}, Res G F' H' σ4 δ' (.ref p) r → Res G F' H' (wipe σ vs) (wipeD δ' vs) (.ref p) r := fun {δ' F' H' r} t => t.slots fun j e q => by
        obtain ⟨h1, h2⟩ := wipeD_some q
        exact ⟨⟨e, h2⟩, by rw [← hw, wipe_out h1]⟩
      cases v with
      | false => exact ⟨F5, δ5, acc, again I5, base4 s5, tw t5, q5⟩
      | true =>
        show (if true = true then _ else _)
        rw [if_pos rfl]
        refine ⟨G, F5, δ5, _, NoE, eK, I5, q5, XOk.none, fun yd δ6 F6 H6 y6 q6 I6 s6 r6 => ?_⟩
        have t6 := Res.step s6 t5
        obtain ⟨vs6, g1, g2, I7, e7, t7, o7⟩ := Res.grow I6 t6 r6
        refine ⟨vs6, g1, by rw [g2]; exact q6.1, F6, δ6, acc ++ [yd], again I7, ?_, tw t7, q6.2⟩
        have s67 : Stp G σ δ1 F1 H1 (wipeD δ6 vs) F6 H6 := base4 (s5.trans s6)
        have hp1 : H1 p = none := hp
        refine ⟨s67.ext.trans e7, s67.own, fun b u q np' n' => ?_, s67.fz, fun b q => ?_⟩
        · rw [o7 b (fun z => by subst z; rw [hp1] at q; cases q)]; exact s67.kp b u q np' n'
        · rw [o7 b (fun z => by subst z; exact q hp1)]; exact s67.trk b q
    · have e : i = items.length := by omega
      subst e
      rw [List.drop_length] at q2
      have q2' : Qd (true, .lst acc) (restore δ1 (wipeD δ2 vs) vs) := q2
      have own' : ∀ (j : Nat) (x : D), (restore δ1 (wipeD δ2 vs) vs).sl[j]? = some (some (true, x)) → j ∉ vs ∧ (wipeD δ2 vs).sl[j]? = some (some (true, x)) := fun j x h => by
        rcases restore_some h with h | ⟨d', h1, _⟩
        · exact h
        · cases h1
      refine .inl ⟨it.stop F2 H2 s2.ext I2.bas.trk, fin q2' (Hold.restore I1 s2.ext I2 fun j r h => (wipeD_some h).1) (s2.to fun j x h => (own' j x h).2) ⟨r2.slots fun j x h => ?_, fun _ a ha => by cases ha; exact hp⟩⟩
      obtain ⟨h1, h2⟩ := own' j x h
      exact ⟨⟨x, h2⟩, (wipe_out h1).symm⟩
theorem do_lc {elt tg iter : Expr} {ifs : List Expr} {scope : Scope} {own : List (Str × Nat)} {fi : FX (List D)} {g : FTg} {tt : FX Bool} {te : FX D} (hc : X.calm = true) (hN : X.N.Nodup) (hi : DI X E tg iter fi) (ok : BlkOk X.N X.env.scope scope own)
    (hg : ∀ (s : Shared) (H : Hp) (C : Addr) (cl : List (Str × Addr)) (fp : List Addr), DTg (X.blk s H scope (compEnvC scope cl C X.env) fp) tg (own.map (·.2)) g)
    (ht : ∀ (s : Shared) (H : Hp) (C : Addr) (cl : List (Str × Addr)) (fp : List Addr), DTs (X.blk s H scope (compEnvC scope cl C X.env) fp) E0 ifs tt)
    (he : ∀ (s : Shared) (H : Hp) (C : Addr) (cl : List (Str × Addr)) (fp : List Addr), DG (X.blk s H scope (compEnvC scope cl C X.env) fp) E0 elt te) (hs : ∀ x, foldedSetIterable iter X.env x = pure x := by intro _; rfl) :
    DO X E (.ListComp elt [⟨tg, iter, ifs, 0⟩] scope pos) (fLc fi g tt te (own.map (·.2))) :=
  PE.imp (pe_lc (g := rdTg X.K (ownIx own) g) (tt := rdA X.K E0 okT tt) (te := rdA X.K E0 okG te) hc hN hi ok hg ht he hs) fun σ H Q h => rd_lc h
theorem ds_setLc {i : Nat} {y : Str} {py : Pos} {elt tg iter : Expr} {ifs : List Expr} {scope : Scope} {own : List (Str × Nat)} {spos : Pos} {fi : FX (List D)} {g : FTg} {tt : FX Bool} {te : FX D} (hc : X.calm = true) (hN : X.N.Nodup) (hy : X.N[i]? = some y) (hyl : X.env.scope.names.lookup y = some .local)
    (hsw : swapsWith (.ListComp elt [⟨tg, iter, ifs, 0⟩] scope pos) (some (.Name y py)) spos.line X.env = pure true) (hi : DI X E tg iter fi) (ok : BlkOk X.N X.env.scope scope own)
    (hg : ∀ (s : Shared) (H : Hp) (C : Addr) (cl : List (Str × Addr)) (fp : List Addr), DTg (X.blk s H scope (compEnvC scope cl C X.env) fp) tg (own.map (·.2)) g)
    (ht : ∀ (s : Shared) (H : Hp) (C : Addr) (cl : List (Str × Addr)) (fp : List Addr), DTs (X.blk s H scope (compEnvC scope cl C X.env) fp) E0 ifs tt)
    (he : ∀ (s : Shared) (H : Hp) (C : Addr) (cl : List (Str × Addr)) (fp : List Addr), DG (X.blk s H scope (compEnvC scope cl C X.env) fp) E0 elt te) (hs : ∀ x, foldedSetIterable iter X.env x = pure x := by intro _; rfl) :
    DSt X E (.Assign [.Name y py] (.ListComp elt [⟨tg, iter, ifs, 0⟩] scope pos) spos) (sSet i (fLc fi g tt te (own.map (·.2)))) :=
  PS.imp (ps_setLc (g := rdTg X.K (ownIx own) g) (tt := rdA X.K E0 okT tt) (te := rdA X.K E0 okG te) hc hN hy hyl hsw hi ok hg ht he hs) fun D σ H ⟨G, F, δ, Dd, Ed, eK, I, hf, hx, k⟩ =>
    rd_lc (E := E) ⟨G, F, δ, fun r δ' => Dd.nx (δ'.put i (some r)), Ed, eK, I, hf, hx, fun r δ' F' H' v q I' e' r' => k.nx _ F' _ H' q (I'.put r'.1)⟩
end

/-! ### what a def promises, over data -/
/-- the arguments, how many draws were made, what is wanted, what of exceptions -/
abbrev DC := List D → Nat → (D → Nat → Prop) → EdT → Prop
def spD (K : KF) (C : DC) : Sp := fun vs H Q E => ∃ (F : FS) (pa : Option Addr) (n : Nat) (ds : List D) (Qd : D → Nat → Prop) (Ed : EdT), (∀ a, F a → H a ≠ none) ∧ (PenOk pa F H n ∧ TabsF (TK K) F H) ∧ RepAll K pa F H vs ds ∧ C ds n Qd Ed ∧ XOk ⟨K, F, H, pa⟩ E Ed ∧
  ∀ d n' F' H' v, Qd d n' → Bas ⟨K, F, H, pa⟩ F' H' n' → Rep K pa F' H' v d → Q v H'
section
variable {G : Gd} {F F' : FS} {H H' : Hp} {σ : L2.St} {δ : Dst} {n : Nat}
theorem free0 (B : Bas G F H n) {a : Addr} (h : H a = none) : G.H0 a = none := by
  have np : G.off a := ⟨fun e => (PenOk.trk (G := G) B.pen e).1 h, fun p m z => (B.tab.trk m).1 (by rw [z]; exact h)⟩
  cases e : G.H0 a with
  | none => rfl
  | some o => rw [B.old a o e np] at h; cases h
theorem Bas.call (B : Bas G F H δ.n) (C : Bas ⟨G.K, F, H, G.pa⟩ F' H' n) : Bas G F' H' n :=
  ⟨fun a h => C.sub a (B.sub a h), fun a h => (C.new a h).elim (B.new a) fun z => .inr (free0 B z), fun b o h np => C.old b o (B.old b o h np) ⟨np.pen, np.tab⟩, C.trk, C.pen, C.tab⟩
theorem Hold.call (I : Hold G F δ σ H) (C : Bas ⟨G.K, F, H, G.pa⟩ F' H' n) : Hold G F' ⟨δ.sl, n⟩ σ H' ∧ Stp G σ δ F H ⟨δ.sl, n⟩ F' H' := by
  have e : Ext F H F' H' := ⟨C.sub, fun a o f h => C.old a o h ⟨(I.bas.offF f).pen, (I.bas.offF f).tab⟩⟩
  have nfr : ∀ {a : Addr} {d : D}, Own G F H a d → ¬ F' a := fun {a d} o f => (C.new a f).elim o.nf o.at_.trk
  refine ⟨⟨I.bas.call C, I.len, fun i d h => ?_, fun i d h => ?_, I.dis⟩, e, fun i x h => ⟨x, h⟩, fun a o h np _ => C.old a o h ⟨np.pen, np.tab⟩, fun a f => (C.new a f).elim .inl fun z => .inr (.inl z), fun a h h' => ?_⟩
  · obtain ⟨v, h1, h2⟩ := I.fro i d h
    exact ⟨v, h1, h2.ext e⟩
  · obtain ⟨a, h1, h2⟩ := I.own i d h
    have ht := h2.at_.trk
    refine ⟨a, h1, h2.ext e ?_ (nfr h2)⟩
    cases q : H a with
    | none => exact absurd q ht
    | some o => exact C.old a o q ⟨h2.np.pen, h2.np.tab⟩
  · cases q : H a with
    | none => exact h q
    | some o =>
      by_cases np : G.pa = some a
      · exact (PenOk.trk (G := ⟨G.K, F, H, G.pa⟩) C.pen np).1 h'
      · by_cases nt : ∀ p ∈ TK G.K, p.1 ≠ a
        · rw [C.old a o q ⟨np, nt⟩] at h'; cases h'
        · refine nt fun p hp z => (C.tab.trk hp).1 ?_
          rw [z]; exact h'
theorem XOk.call {E : XK} {Ed : EdT} (B : Bas G F H δ.n) (x : XOk G E Ed) : XOk ⟨G.K, F, H, G.pa⟩ E Ed := fun y F1 H1 m dx gs h C z e n r => x y F1 H1 m dx gs h (B.call C) (free0 B z) e n r
end
section
variable {X : Cx} {E : XK} {e a b c : Expr} {es : List Expr} {pos : Pos}
def fOwn (C : DC) (dds : List D) (fa : FX (List D)) : FX D := fun Ed δ Q => fa Ed δ fun ds δ1 => C (ds ++ dds) δ1.n (fun d n => Q d ⟨δ1.sl, n⟩) Ed
theorem rd_own {C : DC} {dvs : List V} {dds : List D} {fa : FX (List D)} (hd : ∀ pa F H, RepAll X.K pa F H dvs dds) {σ : L2.St} {H : Hp} {Q : VK} (h : rdA X.K E okG (fOwn C dds fa) σ H Q) : tCall (spD X.K C) dvs E (rdA X.K E okA fa) σ H Q := by
  obtain ⟨G, F, δ, Qd, Ed, eK, I, hf, hx, k⟩ := h
  refine ⟨G, F, δ, _, Ed, eK, I, hf, hx, fun ds δ1 F1 H1 vs q1 I1 s1 r1 => ?_⟩
  have r1' : RepAll G.K G.pa F1 H1 vs ds := r1
  rw [eK] at r1'
  refine ⟨F1, G.pa, δ1.n, ds ++ dds, _, Ed, I1.bas.trk, ⟨I1.bas.pen, by rw [← eK]; exact I1.bas.tab⟩, r1'.append (hd _ _ _), q1, ?_, fun d n F' H' v q C' r => ?_⟩
  · have := XOk.call I1.bas hx
    rw [eK] at this
    exact this
  · rw [← eK] at C' r
    obtain ⟨I2, s2⟩ := I1.call C'
    exact k d _ F' H' v q I2 (s1.trans s2) r
theorem dg_call {CX : CXT} {k : Nat} {f : Addr} {fd : FuncData} {ps : List Str} {C : DC} {dvs : List V} {dds : List D} {ds : List Value} {x : Str} {p : Pos} {fa : FX (List D)} (F : FnG X.prog X.w X.K X.mg X.base CX k f fd ps (spD X.K C)) (hg0 : Bare X.A) (hr : Room k X.A) (hg : Gl X x) (hm : X.mg x = some (.ref f)) (hk : PySem.W.keepIn X.K (.ref f) = true)
    (hb : Binds X.K fd ps ds) (hd : Vals dvs ds) (hdd : ∀ pa F H, RepAll X.K pa F H dvs dds) (hx : Passes CX X E) (ha : DA X E (e :: es) fa) (hdb : (x == ("__debug__" : Str)) = false := by decide) (he : starEach (e :: es) X.env = (false, eval e X.env) :: starEach es X.env := by rfl) (hpl : (backTo pos (starEach es X.env)).any (·.1) = false := by rfl) :
    DG X E (.Call (.Name x p) (e :: es) [] pos) (fOwn C dds fa) :=
  PE.imp (pe_callG F hg0 hr hg hm hk hb hd hx ha hdb he hpl) fun σ H Q h => rd_own hdd h
end
/-! ### a def's body keeps its promise -/
def startD (N : List Str) (ds : List D) (n : Nat) : Dst := ⟨ds.map (fun d => some (false, d)) ++ List.replicate (N.length - ds.length) none, n⟩
theorem hold_start {G : Gd} {N : List Str} {vs : List V} {ds : List D} {n : Nat} (r : RepAll G.K G.pa G.F0 G.H0 vs ds) (ht : ∀ a, G.F0 a → G.H0 a ≠ none) (hp : PenOk G.pa G.F0 G.H0 n ∧ TabsF (TK G.K) G.F0 G.H0) : Hold G G.F0 (startD N ds n) (L2.start N vs) G.H0 := by
  have hl := r.len
  have nn : ∀ (i : Nat) (b : Bool) (d : D), (startD N ds n).sl[i]? = some (some (b, d)) → b = false ∧ ds[i]? = some d := fun i b d h => by
    unfold startD at h
    dsimp only at h
    by_cases hi : i < ds.length
    · rw [List.getElem?_append_left (by simpa using hi), List.getElem?_map] at h
      rw [List.getElem?_eq_getElem hi] at h ⊢
      simp at h
      exact ⟨h.1, by rw [h.2]⟩
    · rw [List.getElem?_append_right (by simpa using hi)] at h
      obtain ⟨hj, e⟩ := List.getElem?_eq_some_iff.mp h
      rw [List.getElem_replicate] at e
      cases e
  refine ⟨⟨fun _ h => h, fun _ h => .inl h, fun _ _ h _ => h, ht, hp.1, hp.2⟩, ?_, fun i d h => ?_, fun i d h => ?_, fun i j d e a _ h => ?_⟩
  · unfold startD L2.start; simp [hl]
  · obtain ⟨_, h1⟩ := nn i false d h
    obtain ⟨v, h2, h3⟩ := r.get' h1
    refine ⟨v, ?_, h3⟩
    have hi := (List.getElem?_eq_some_iff.mp h2).1
    unfold L2.start
    rw [List.getElem?_append_left (by simpa using hi), List.getElem?_map, h2]
    rfl
  · exact absurd (nn i true d h).1 (by decide)
  · exact absurd (nn i true d h).1 (by decide)
section
variable {P : Program} {w : World} {K : PySem.W.Frag} {mg : Str → Option Value} {base : Heap}
theorem fn_data {CX : CXT} {x qual : Str} {params : Arguments} {body : List Stmt} {scope : Scope} {dvs : List V} {kws : List (Str × V)} {f : Addr} {fd : FuncData} {N ps : List Str} {k : Nat} {C : DC} {g : FSt} (F : FunD K x qual params body scope dvs kws f fd) (S : FnScope N ps scope)
    (hl : ∀ ds n Q Ed, C ds n Q Ed → ds.length = ps.length)
    (hw : ∀ (cdv : Value) (A : Around) (outer : List Env) (s : Shared) (H : Hp) (E : XK), Bare A → Room k (A.deeper (envOfC qual scope s.heap.objs.size f cdv)) → DSs (cxOf CX P w K mg base N qual scope f cdv A outer s H E) E body g)
    (hc : ∀ ds n Q Ed, C ds n Q Ed → g Ed ⟨fun δ => Q .non δ.n, Q, fun _ => False, fun _ => False⟩ (startD N ds n)) : FnG P w K mg base CX (k + 1) f fd ps (spD K C) := by
  refine FunD.okG F S (fun vs H Q E h => ?_) fun cdv A outer s H vs Q E hg hr h => ⟨_, hw cdv A outer s H E hg hr, ?_⟩
  · obtain ⟨F0, pa, n, ds, Qd, Ed, h1, h2, h3, h4, _⟩ := h
    rw [h3.len]; exact hl ds n Qd Ed h4
  · obtain ⟨F0, pa, n, ds, Qd, Ed, h1, h2, h3, h4, h5, h6⟩ := h
    refine ⟨⟨K, F0, H, pa⟩, F0, startD N ds n, _, Ed, rfl, hold_start (G := ⟨K, F0, H, pa⟩) h3 h1 h2, hc ds n Qd Ed h4, h5, ⟨fun δ F' σ H' q I' => ?_, fun d n' F' H' v q B r => h6 d n' F' H' v q B r, fun _ _ _ _ q => q.elim, fun _ _ _ _ q => q.elim⟩⟩
    exact h6 .non δ.n F' H' .non q I'.bas .non
end
end DS
end
section
set_option maxRecDepth 100000
set_option maxHeartbeats 1000000
/-! DSX: sorted(a tuple), sum(lists, a list). -/
namespace DSX
open PySem PySem.Spec PyProof.Rows L2
section
variable {prog : Program} {w : World} {A : Around} {E : Value → Shared → Prop} {s : Shared}
/-- what collects a tuple's items -/
def bag (h : Heap) (vs : List Value) : Heap := (h.push (seqObj "list" #[] 0)).update h.objs.size (Obj.mapSeq (· ++ vs.toArray))
theorem bag_old {h : Heap} {vs : List Value} {b : Addr} {o : Obj} (q : h.get? b = some o) : (bag h vs).get? b = some o := by
  unfold bag
  rw [Heap.get?_update_ne _ _ _ _ (Nat.ne_of_lt (Heap.lt_size q))]
  exact Heap.get?_push_of_some _ q
theorem bag_size (h : Heap) (vs : List Value) : (bag h vs).objs.size = h.objs.size + 1 := by
  unfold bag
  rw [Heap.size_update, size_push']
theorem collect_tup {t : Addr} {vs : List Value} {Q : List Value → Shared → Prop} (tup : IsTup s.heap t vs.toArray) (small : vs.length ≤ sizeLine) (fin : Q vs { s with heap := bag s.heap vs }) :
    wpAny (model prog w) A (collect (.ref t)) Q E s := by
  obtain ⟨o, look, cls, n, items⟩ := tup
  have fresh : (s.heap.push (seqObj "list" #[] 0)).get? s.heap.objs.size = some (seqObj "list" #[] 0) := Heap.get?_push_size _ rfl
  have look1 : (s.heap.push (seqObj "list" #[] 0)).get? t = some o := Heap.get?_push_of_some _ look
  unfold collect
  apply wpAny_bind
  refine wpAny_runValue (codeAny_builtin entry_proto_collect' ?_)
  show wpAny _ _ (do again (.builtin "list.__iadd__" ⟨[← newList [], .ref t], []⟩)) _ _ s
  apply wpAny_bind
  refine wpAny_newList (wpAny_pure ⟨Code.quiet_builtin _ (by decide +kernel), codeAny_builtin entry_list_iadd' ?_⟩)
  show wpAny _ _ (Builtin.List.listExtendWith (.ref s.heap.objs.size) (.ref t) (.ref s.heap.objs.size)) _ _ { s with heap := s.heap.push (seqObj "list" #[] 0) }
  unfold Builtin.List.listExtendWith
  apply wpAny_bind
  refine wpAny_typeOf (T := "tuple") ⟨o, look1, cls⟩ ?_
  have yes : (Value.type "tuple" == Value.type "tuple") = true := rfl
  rw [if_pos (by rw [yes]; simp)]
  apply wpAny_bind
  refine listItems_at look1 items ?_
  apply wpAny_bind
  refine listItems_at (xs := #[]) (n := 0) fresh rfl ?_
  rw [if_neg (by simp)]
  apply wpAny_bind
  refine listUpdate_at (xs := #[]) (n := 0) fresh rfl ?_ (Nat.zero_le _) ?_
  · refine wpAny_pure ?_
    show wpAny (model prog w) A (do
        let o ← load s.heap.objs.size
        match o.data with
        | .seq xs _ => pure xs.toList
        | _ => unsupported "internal:collect") Q E { s with heap := bag s.heap vs }
    apply wpAny_bind
    refine wpAny_load (get?_update_seq fresh _) ?_
    have e : ((#[] : Array Value) ++ vs.toArray).toList = vs := by simp
    show wpAny _ _ (pure ((#[] : Array Value) ++ vs.toArray).toList) Q E _
    rw [e]
    exact wpAny_pure fin
  · show (#[] ++ vs.toArray).size ≤ sizeLine + 1
    rw [Array.size_append, List.size_toArray]
    simp only [List.size_toArray, List.length_nil]
    omega
theorem sorted_tup {t : Addr} {vs : List Value} {lt : Value → Value → Bool} {Q : Value → Shared → Prop} (O : SrtO.Swo lt) (tup : IsTup s.heap t vs.toArray) (small : vs.length ≤ sizeLine)
    (can : 2 ≤ vs.length → ∀ (h : Heap) (a : Addr), SrtO.SortableO prog w A.in1.in1 { s with heap := h } a vs lt)
    (fin : ∀ out : List Value, SrtO.Srtd lt out → SrtO.Stb lt out vs → Q (.ref (s.heap.objs.size + 1)) { s with heap := sortedAll s.heap vs out.toArray }) :
    wpAny (model prog w) A (call (.builtin "sorted") [.ref t]) Q E s := by
  apply Calls.call_function_entry kind_sorted plain_sorted entry_sorted (args_sorted1 _)
  unfold Builtin.«sorted»
  apply wpAny_bind (m := checkCount "sorted" 1 1 _)
  apply wpAny_pure
  apply wpAny_bind
  refine collect_tup tup small ?_
  apply wpAny_bind
  refine wpAny_newList ?_ small
  have at_ : ((bag s.heap vs).push (seqObj "list" vs.toArray 0)).get? (s.heap.objs.size + 1) = some (seqObj "list" vs.toArray 0) := by
    rw [← bag_size s.heap vs]
    exact Heap.get?_push_size _ rfl
  show wpAny _ _ _ _ _ { s with heap := (bag s.heap vs).push (seqObj "list" vs.toArray 0) }
  rw [bag_size]
  apply wpAny_bind
  apply wpAny_holding
  refine wpAny_call_entry slot_list_sort ⟨_, at_, rfl⟩ entry_list_sort (SrtO.list_sort_ord O at_ small (fun two => can two _ _) fun out a b => ⟨_, rfl, ?_⟩) (args_list_sort _)
  exact wpAny_pure ⟨_, rfl, fin out a b⟩
end
section
variable {X : Cx}
/-- sorted of a tuple of whole numbers -/
def rSortedTI (K : PySem.W.Frag) : List V → Hp → VK → Prop := fun vs H Q => ∃ (a : Addr) (ns : List Int), vs = [V.ref a] ∧ SqT K H a (ns.map V.int) ∧
  ∀ (ns' : List Int) (p : Addr), ns'.Perm ns → ns'.Pairwise (· ≤ ·) → H p = none → Q (.ref p) (upd H p (.lst (ns'.map V.int)))
theorem cr_sortedTI : CallR X (.builtin "sorted") (rSortedTI X.K) := by
  intro pins s σ H vs us Q I r h
  obtain ⟨a, ns, rfl, hs, q⟩ := h
  obtain ⟨its, rv, tup, short⟩ := I.tuple hs
  have hi := rv.ints
  rw [Vals.ref1 r]
  have hlen := rv.length
  refine sorted_tup SrtO.swo_int tup (by rw [← hlen]; exact short) (fun two _ _ => SrtO.ints_sortable hi two) fun out a1 a2 => ?_
  obtain ⟨k1, k2, k3⟩ := SrtO.ints_out hi a1 a2
  obtain ⟨ep, there⟩ := PyProof.Rows.sortedAll_at s.heap its out.toArray
  refine ⟨.ref _, upd H (s.heap.objs.size + 1) (.lst ((out.map SrtO.iv).map V.int)), ?_, rfl, q _ _ k2 k3 (I.hok.fresh (Nat.le_succ _))⟩
  refine I.laid (t' := s.toks) (fun _ _ => PyProof.Rows.sortedAll_old) (Nat.le_succ _) ⟨?_, out, ep, vals_of_ints k1, there⟩
  rw [List.length_map, k2.length_eq]
  rwa [List.length_map] at short
end
end DSX
end
section
set_option maxRecDepth 100000
set_option maxHeartbeats 1000000
namespace DSX
open PySem PySem.Spec PyProof.Rows L2
abbrev lo (its : List Value) (n : Nat) : Obj := { cls := .type "list", dict := none, data := .seq its.toArray n, slots := #[] }
section
variable {prog : Program} {w : World} {A : Around} {R : Result → Shared → Prop}
/-- what lies behind the i-th item -/
def restL (its : Nat → List Value) : Nat → Nat → List Value
  | _, 0 => []
  | i, k + 1 => its i ++ restL its (i + 1) k
theorem loop_cat (calm : A.handled = none) (I L S : Addr) (items : Array Value) (bs : Nat → Addr) (its : Nat → List Value) (isB : ∀ j, j < items.size → items[j]? = some (.ref (bs j))) (sI : S ≠ I) (sL : S ≠ L) (lI : L ≠ I) :
    ∀ (k i : Nat) (s : Shared) (t c m : Nat) (acc : List Value), items.size - i = k → i ≤ items.size → s.heap.IsListIter I L i → s.heap.IsList L items → s.heap.get? S = some (lo [.ref t] c) → s.heap.get? t = some (lo acc m) → t ≠ I → t ≠ S →
    (∀ j, i ≤ j → j < items.size → (∃ q, s.heap.get? (bs j) = some (lo (its j) q)) ∧ bs j ≠ I ∧ bs j ≠ S) → acc.length + (restL its i k).length ≤ sizeLine →
    (∀ h' tk r q, (∀ b o, b ≠ I → b ≠ S → s.heap.get? b = some o → h'.get? b = some o) → h'.get? r = some (lo (acc ++ restL its i k) q) → (k = 0 → r = t) → (0 < k → s.heap.objs.size ≤ r) → R (.ok (.ret (.ref r))) { s with heap := h', toks := tk }) →
    codeAny (model prog w) A (.builtin "sum.loop" ⟨[.ref I, .ref S, rawInt 2, rawInt 0], []⟩) R s := by
  intro k
  induction k with
  | zero =>
    intro i s t c m acc hk le it ls atS atT tI tS _ _ fin
    obtain rfl : i = items.size := by omega
    refine codeAny_builtin F.entry_sum_loop ?_
    rw [Around.under_plainId F.plain_sum_loop _]
    show wpAny _ A.in1 (seqItems? (.ref S) >>= _) _ _ s
    apply wpAny_bind
    refine wpAny_seqItems atS rfl ?_
    show wpAny _ A.in1 (tryCatch (pyNext (.ref I)) _ >>= _) _ _ s
    apply wpAny_bind
    apply wpAny_tryCatch
    refine wpAny_pyNext_list_end calm it ls (by simp) fun h' kept => ?_
    exact wpAny_pure (fin h' s.toks t m (fun b o nb _ q => kept b o nb q) (by rw [kept t _ tI atT]; simp [restL]) (fun _ => rfl) fun z => absurd z (by decide))
  | succ k ih =>
    intro i s t c m acc hk le it ls atS atT tI tS all short fin
    have lt : i < items.size := by omega
    refine codeAny_builtin F.entry_sum_loop ?_
    rw [Around.under_plainId F.plain_sum_loop _]
    show wpAny _ A.in1 (seqItems? (.ref S) >>= _) _ _ s
    apply wpAny_bind
    refine wpAny_seqItems atS rfl ?_
    show wpAny _ A.in1 (tryCatch (pyNext (.ref I)) _ >>= _) _ _ s
    apply wpAny_bind
    apply wpAny_tryCatch
    refine wpAny_pyNext_list_item it ls (isB i lt) fun h1 it1 same => ?_
    obtain ⟨⟨q, atB⟩, bI, bS⟩ := all i (Nat.le_refl _) lt
    have kept : ∀ {b : Addr} {o : Obj}, b ≠ I → s.heap.get? b = some o → h1.get? b = some o := fun {b o} nb q => (same.2 b nb).trans q
    have atT1 := kept tI atT
    have atB1 := kept bI atB
    have atS1 := kept sI atS
    have len : acc.length + ((its i).length + (restL its (i + 1) k).length) ≤ sizeLine := by
      have e : (restL its i (k + 1)).length = (its i).length + (restL its (i + 1) k).length := by
        show (its i ++ restL its (i + 1) k).length = _
        rw [List.length_append]
      omega
    show wpAny _ A.in1 ((holding [.ref (bs i)] (binaryOp .Add (.ref t) (.ref (bs i)))).attempt >>= _) _ _ _
    apply wpAny_bind
    apply wpAny_attempt
    apply wpAny_holding
    refine PySem.P.add_list atT1 atB1 ?_ (by rw [List.size_toArray, List.size_toArray]; omega)
    have sz1 : h1.objs.size = s.heap.objs.size := same.1
    generalize hh2 : h1.push { cls := .type "list", data := .seq (acc.toArray ++ (its i).toArray) } = h2
    have old2 : ∀ {b : Addr} {o : Obj}, h1.get? b = some o → h2.get? b = some o := fun q => by rw [← hh2]; exact Heap.get?_push_of_some _ q
    have sz2 : h2.objs.size = h1.objs.size + 1 := by rw [← hh2]; exact size_push' ..
    have new2 : h2.get? h1.objs.size = some (lo (acc ++ its i) 0) := by
      rw [← hh2, show (lo (acc ++ its i) 0) = { cls := .type "list", data := .seq (acc.toArray ++ (its i).toArray) } from by simp [lo]]
      exact Heap.get?_push_size _ rfl
    have nS : h1.objs.size ≠ S := Nat.ne_of_gt (Heap.lt_size atS1)
    have nI : h1.objs.size ≠ I := by
      obtain ⟨o, q, _⟩ := it1
      exact Nat.ne_of_gt (Heap.lt_size q)
    show wpAny _ A.in1 (updateSeq S (fun _ => #[.ref h1.objs.size]) >>= _) _ _ _
    apply wpAny_bind
    refine wpAny_updateSeq (old2 atS1) rfl ?_ (by simp [sizeLine]) (by simp [sizeLine])
    apply wpAny_bind
    apply wpAny_letGo
    generalize hh3 : h2.update S (Obj.mapSeq fun _ => #[.ref h1.objs.size]) = h3
    have sz3 : h3.objs.size = h2.objs.size := by rw [← hh3]; exact Heap.size_update ..
    have old3 : ∀ {b : Addr} {o : Obj}, b ≠ S → h2.get? b = some o → h3.get? b = some o := fun nb q => by rw [← hh3]; exact (Heap.get?_update_other _ _ (Ne.symm nb)).trans q
    obtain ⟨c3, at3⟩ : ∃ c3, h3.get? S = some (lo [.ref h1.objs.size] c3) := by
      rw [← hh3]; exact ⟨_, get?_update_seq (xs := #[.ref t]) (n := c) (old2 atS1) _⟩
    show wpAny _ A.in1 (updateSeq S (fun _ => #[.ref h1.objs.size]) >>= _) _ _ _
    apply wpAny_bind
    refine wpAny_updateSeq at3 rfl ?_ (by simp [sizeLine]) (by simp [sizeLine])
    generalize hh4 : h3.update S (Obj.mapSeq fun _ => #[.ref h1.objs.size]) = h4
    have sz4 : h4.objs.size = h3.objs.size := by rw [← hh4]; exact Heap.size_update ..
    have old4 : ∀ {b : Addr} {o : Obj}, b ≠ S → h3.get? b = some o → h4.get? b = some o := fun nb q => by rw [← hh4]; exact (Heap.get?_update_other _ _ (Ne.symm nb)).trans q
    obtain ⟨c4, at4⟩ : ∃ c4, h4.get? S = some (lo [.ref h1.objs.size] c4) := by
      rw [← hh4]; exact ⟨_, get?_update_seq (xs := #[.ref h1.objs.size]) (n := c3) at3 _⟩
    have up : ∀ {b : Addr} {o : Obj}, b ≠ S → h1.get? b = some o → h4.get? b = some o := fun nS q => old4 nS (old3 nS (old2 q))
    have old : ∀ {b : Addr} {o : Obj}, b ≠ I → b ≠ S → s.heap.get? b = some o → h4.get? b = some o := fun nb nS q => up nS (kept nb q)
    refine wpAny_pure ⟨plainId_quiet F.plain_sum_loop _, ih (i + 1) _ h1.objs.size c4 0 (acc ++ its i) (by omega) lt (it1.at fun o q => up (Ne.symm sI) q) (ls.at fun o q => old lI (Ne.symm sL) q) at4 (old4 nS (old3 nS new2)) nI nS ?_ (by rw [List.length_append]; omega) ?_⟩
    · intro j h5 h6
      obtain ⟨⟨q, a1⟩, a2, a3⟩ := all j (by omega) h6
      exact ⟨⟨q, old a2 a3 a1⟩, a2, a3⟩
    · intro h' tk' r q kept' atR e0 fresh
      refine fin h' tk' r q (fun b o nb nS q => kept' b o nb nS (old nb nS q)) (by rw [atR, List.append_assoc]; rfl) (fun z => absurd z (by omega)) fun _ => ?_
      rcases Nat.eq_zero_or_pos k with z | z
      · rw [e0 z]; omega
      · have := fresh z
        simp only at this
        omega
end
section
variable {prog : Program} {w : World} {A : Around} {E : Value → Shared → Prop} {s : Shared}
theorem sub_list_str : isSubtype (.type "list") (.type "str") = pure false := by rw [isSubtype_type]; kernel_rfl
theorem sub_list_bytes : isSubtype (.type "list") (.type "bytes") = pure false := by rw [isSubtype_type]; kernel_rfl
theorem sub_list_ba : isSubtype (.type "list") (.type "bytearray") = pure false := by rw [isSubtype_type]; kernel_rfl
theorem args_sum2 (a b : Value) : argsOk "sum" ⟨[a, b], []⟩ := by unfold argsOk; kernel_rfl
/-- sum(L, t), L a list of lists, t a list -/
theorem call_sum_lists {L t m : Nat} {acc : List Value} {items : Array Value} (bs : Nat → Addr) (its : Nat → List Value) {Q : Value → Shared → Prop} (calm : A.handled = none) (ls : s.heap.IsList L items) (atT : s.heap.get? t = some (lo acc m))
    (isB : ∀ j, j < items.size → items[j]? = some (.ref (bs j))) (all : ∀ j, j < items.size → ∃ q, s.heap.get? (bs j) = some (lo (its j) q)) (short : acc.length + (restL its 0 items.size).length ≤ sizeLine)
    (fin : ∀ h' tk r q, (∀ b o, s.heap.get? b = some o → h'.get? b = some o) → h'.get? r = some (lo (acc ++ restL its 0 items.size) q) → (items.size = 0 → r = t) → (0 < items.size → s.heap.objs.size ≤ r) → Q (.ref r) { s with heap := h', toks := tk }) :
    wpAny (model prog w) A (call (.builtin "sum") [.ref L, .ref t]) Q E s := by
  apply call_function_tree F.kind_sum F.plain_sum F.entry_sum (args_sum2 _ _)
  unfold Builtin.«sum»
  simp only [List.length_cons, List.length_nil]
  rw [if_neg (by decide)]
  apply wpAny_bind
  refine wpAny_of_eq (show Builtin.Builtins.bindParams "sum" ["start"] 0 { pos := [.ref t] } = pure [some (.ref t)] from rfl) ?_
  apply wpAny_bind
  refine iter_any ls fun s2 e2 st ne => ?_
  have szL : L < s.heap.objs.size := by obtain ⟨o, q, _⟩ := ls; exact Heap.lt_size q
  have sz2 : s2.heap.objs.size = s.heap.objs.size + 1 := by rw [e2]; exact size_push' ..
  have old2 : ∀ {b : Addr} {o : Obj}, s.heap.get? b = some o → s2.heap.get? b = some o := fun q => by rw [e2]; exact Heap.get?_push_of_some _ q
  have tT : s2.TypeIs (.ref t) "list" := ⟨_, old2 atT, rfl⟩
  apply wpAny_bind
  apply wpAny_pure
  simp only [List.forIn_cons, List.forIn_nil]
  refine wpAny_bind (wpAny_bind (wpAny_bind (wpAny_isInstance (T := "list") (b := false) tT sub_list_str ?_)))
  simp only [Bool.false_eq_true, if_false]
  refine wpAny_pure (wpAny_bind (wpAny_bind (wpAny_isInstance (T := "list") (b := false) tT sub_list_bytes ?_)))
  simp only [Bool.false_eq_true, if_false]
  refine wpAny_pure (wpAny_bind (wpAny_bind (wpAny_isInstance (T := "list") (b := false) tT sub_list_ba ?_)))
  simp only [Bool.false_eq_true, if_false]
  apply wpAny_pure
  apply wpAny_pure
  apply wpAny_bind
  refine wpAny_newObj_type ?_
  have old3 : ∀ {b : Addr} {o ob : Obj}, s2.heap.get? b = some o → (s2.heap.push ob).get? b = some o := fun q => Heap.get?_push_of_some _ q
  have far : ∀ {b : Addr} {o : Obj}, s.heap.get? b = some o → b ≠ s.heap.objs.size ∧ b ≠ s2.heap.objs.size := fun q => ⟨Nat.ne_of_lt (Heap.lt_size q), Nat.ne_of_lt (by rw [sz2]; exact Nat.lt_succ_of_lt (Heap.lt_size q))⟩
  refine wpAny_pure ⟨plainId_quiet F.plain_sum_loop _, loop_cat calm s.heap.objs.size L s2.heap.objs.size items bs its isB (by rw [sz2]; exact Nat.succ_ne_self _) (by rw [sz2]; exact Nat.ne_of_gt (Nat.lt_succ_of_lt szL)) ne items.size 0 _ t 0 m acc rfl (Nat.zero_le _) (st.1.at fun o q => old3 q) (st.2.at fun o q => old3 q)
    (Heap.get?_push_size _ rfl) (old3 (old2 atT)) (far atT).1 (far atT).2 (fun j _ hj => ?_) short fun h' tk r q kept atR e0 fresh => ?_⟩
  · obtain ⟨q, a1⟩ := all j hj
    exact ⟨⟨q, old3 (old2 a1)⟩, (far a1).1, (far a1).2⟩
  · have := fin h' tk r q (fun b o q => kept b o (far q).1 (far q).2 (old3 (old2 q))) atR e0 fun z => by
      have := fresh z
      have e3 : (s2.heap.push { cls := .type "list", data := .seq #[.ref t] }).objs.size = s2.heap.objs.size + 1 := size_push' ..
      simp only at this
      omega
    subst e2
    exact this
end
end DSX
end
section
set_option maxRecDepth 100000
set_option maxHeartbeats 1000000
namespace DSX
open PySem PySem.Spec PyProof.Rows L2
/-- sum(lists, a list) -/
def rSum2 : List V → Hp → VK → Prop := fun vs H Q => ∃ (L t : Addr) (ps : List Addr) (yss : List (List V)) (acc : List V), vs = [.ref L, .ref t] ∧ H L = some (.lst (ps.map V.ref)) ∧ H t = some (.lst acc) ∧
  Paired (fun (p : Addr) (ys : List V) => H p = some (.lst ys)) ps yss ∧ acc.length + yss.flatten.length ≤ sizeLine ∧ (ps = [] → Q (.ref t) H) ∧ (ps ≠ [] → ∀ r, H r = none → Q (.ref r) (upd H r (.lst (acc ++ yss.flatten))))
theorem restL_shift (f : Nat → List Value) (i : Nat) : ∀ k, restL f (i + 1) k = restL (fun j => f (j + 1)) i k := by
  intro k
  induction k generalizing i with
  | zero => rfl
  | succ k ih => show f (i + 1) ++ _ = f (i + 1) ++ _; rw [ih]
section
variable {X : Cx} {pins : List (Addr × Obj)} {σ : L2.St} {H : Hp} {s : Shared}
theorem lists_at (I : Inv X pins σ H s) : ∀ {ps : List Addr} {yss : List (List V)}, Paired (fun (p : Addr) (ys : List V) => H p = some (.lst ys)) ps yss →
    ∃ its : Nat → List Value, (∀ j (h : j < ps.length), ∃ q, s.heap.get? ps[j] = some (lo (its j) q)) ∧ Vals yss.flatten (restL its 0 ps.length)
  | _, _, .nil => ⟨fun _ => [], fun j h => absurd h (Nat.not_lt_zero _), .nil⟩
  | p :: ps, ys :: yss, .cons h t => by
    obtain ⟨its, h1, h2⟩ := lists_at I t
    obtain ⟨_, i0, n0, r0, _, g0⟩ := I.lstM h
    refine ⟨fun j => match j with
      | 0 => i0
      | j + 1 => its j, fun j hj => ?_, ?_⟩
    · cases j with
      | zero => exact ⟨n0, g0⟩
      | succ j => exact h1 j (by simpa using hj)
    · show Vals (ys ++ yss.flatten) (i0 ++ restL _ 1 ps.length)
      rw [restL_shift]
      exact r0.append h2
theorem cr_sum2 (hc : X.calm = true) : CallR X (.builtin "sum") rSum2 := by
  intro pins s σ H vs us Q I r h
  obtain ⟨L, t, ps, yss, acc, rfl, atL, atT, all, short, q0, q1⟩ := h
  obtain ⟨u1, u2, rfl, r1, r2⟩ := vals2 r
  obtain rfl : u1 = .ref L := r1
  obtain rfl : u2 = .ref t := r2
  obtain ⟨_, itL, nL, rL, lL, gL⟩ := I.lstM atL
  obtain ⟨_, itT, nT, rT, lT, gT⟩ := I.lstM atT
  obtain ⟨its, h1, h2⟩ := lists_at I all
  have hsz : itL.length = ps.length := by rw [← lL, List.length_map]
  have refs : ∀ j (h : j < ps.length), itL[j]? = some (.ref ps[j]) := fun j h => by
    obtain ⟨u, e1, e2⟩ := rL.get (i := j) (x := .ref ps[j]) (by rw [List.getElem?_map, List.getElem?_eq_getElem h]; rfl)
    rw [e1]
    exact congrArg some e2
  have lf := h2.length
  refine call_sum_lists (items := itL.toArray) (m := nT) (acc := itT) (fun j => ps.getD j 0) its (I.ok.hd hc) ⟨_, gL, rfl, nL, rfl⟩ gT (fun j hj => ?_) (fun j hj => ?_) ?_ fun h' tk p q kept atP e0 fresh => ?_
  · have hj' : j < ps.length := by rw [← hsz]; simpa using hj
    rw [List.getElem?_toArray, refs j hj']
    simp [List.getD_eq_getElem?_getD, List.getElem?_eq_getElem hj']
  · have hj' : j < ps.length := by rw [← hsz]; simpa using hj
    obtain ⟨q, e⟩ := h1 j hj'
    refine ⟨q, ?_⟩
    simp only [List.getD_eq_getElem?_getD, List.getElem?_eq_getElem hj', Option.getD_some]
    exact e
  · rw [List.size_toArray, hsz, ← lf, ← lT]; exact short
  · by_cases z : ps = []
    · have zz : itL.toArray.size = 0 := by rw [List.size_toArray, hsz, z]; rfl
      rw [e0 zz]
      exact ⟨.ref t, H, I.kept kept, rfl, q0 z⟩
    · have zz : 0 < itL.toArray.size := by rw [List.size_toArray, hsz]; exact List.length_pos_iff.mpr z
      have hp := fresh zz
      rw [List.size_toArray, hsz] at atP
      have nw : H p = none := I.hok.fresh hp
      refine ⟨.ref p, upd H p (.lst (acc ++ yss.flatten)), I.laid kept hp ⟨by rw [List.length_append]; exact short, _, q, rT.append h2, atP⟩, rfl, q1 z p nw⟩
end
end DSX
end
section
set_option maxRecDepth 100000
set_option maxHeartbeats 1000000
/-! DS4: what operators, built-ins and methods do to data. -/
namespace DS
open PySem PySem.Spec PyProof.Rows L2

/-! ### the hand layer's rules, put together -/
def rOr (r s : R2) : R2 := fun x y H Q => r x y H Q ∨ s x y H Q
theorem opOr {X : Cx} {f : Value → Value → Sem Value} {r s : R2} (h : OpR X f r) (k : OpR X f s) : OpR X f (rOr r s) := fun pins st σ H x y v u Q I rx ry q => q.elim (h pins st σ H x y v u Q I rx ry) (k pins st σ H x y v u Q I rx ry)
theorem ixOr {X : Cx} {r s : R2} (h : IxR X r) (k : IxR X s) : IxR X (rOr r s) := fun va sl pins st σ H x y v u Q I rx ry q e => q.elim (fun q => h va sl pins st σ H x y v u Q I rx ry q e) (fun q => k va sl pins st σ H x y v u Q I rx ry q e)
def rOrC (r s : List V → Hp → VK → Prop) : List V → Hp → VK → Prop := fun xs H Q => r xs H Q ∨ s xs H Q
theorem callOr {X : Cx} {f : Value} {r s : List V → Hp → VK → Prop} (h : CallR X f r) (k : CallR X f s) : CallR X f (rOrC r s) := fun pins st σ H xs us Q I rx q => q.elim (h pins st σ H xs us Q I rx) (k pins st σ H xs us Q I rx)
section
variable {X : Cx}
/-- l.extend of a list or tuple -/
def rExt (K : KF) : V → List V → Hp → VK → Prop := fun x vs H Q => ∃ l b xs zs, x = .ref l ∧ vs = [.ref b] ∧ H l = some (.lst xs) ∧ (H b = some (.lst zs) ∨ SqT K H b zs) ∧ xs.length + zs.length ≤ sizeLine ∧ Q .non (upd H l (.lst (xs ++ zs)))
theorem wpAny_loadPartD {M : Model} {A : Around} {E : Value → Shared → Prop} {h : Heap} {g : Array GenState} {d : Drawn} {t : Nat} {os : OsState} {a : Addr} {part : Option Value} {o : Obj} {Q : Obj → Shared → Prop}
    (ho : h.get? a = some o) (hq : Q o ⟨h, g, d, t, os⟩) : wpAny M A (loadPart a part) Q E ⟨h, g, d, t, os⟩ := wpAny_loadPart ho hq
theorem extend_tupleD (l : Addr) (items : Array Value) (n : Nat) (b : Addr) (items2 : Array Value) (n2 : Nat) (dd : Option Addr) (sl : Array (Option Value)) (hs0 : ¬(!items.isEmpty && Builtin.List.listTooLong (items.size + items2.size)) = true) (hs1 : items.size ≤ sizeLine) (hs2 : items.size + items2.size ≤ sizeLine + 1) :
    Meets (Builtin.«list.extend» ⟨[.ref l, .ref b], []⟩) (fun _ R s => s.heap.get? l = some { cls := .type "list", dict := none, data := .seq items n, slots := #[] } ∧ s.heap.get? b = some { cls := .type "tuple", dict := dd, data := .seq items2 n2, slots := sl } ∧ R (.ok (.ret Value.none)) { s with heap := s.heap.update l (Obj.mapSeq fun x => x ++ items2), toks := s.toks }) :=
  .of_wp fun prog w A R s h => by
    obtain ⟨hp, g, d, tk, os⟩ := s; obtain ⟨hl, hb, h⟩ := h; have f1 := AutoSeq1.idx_int; have f2 := AutoSeq1.sub_tuple_tuple; have f3 := AutoSeq1.sub_list_list; have f4 := AutoSeq1.sub_tuple_list; have f5 := AutoSeq1.sub_list_tuple;
    have hz' : (items ++ items2).size ≤ sizeLine + 1 := by rw [Array.size_append]; exact hs2
    wp_walk using (wpAny_updateSeq hl rfl (hz := hs1) (_hz' := hz')), wpAny_loadPartD hl, wpAny_loadPartD hb; exact ⟨_, rfl, h⟩
theorem mt_ext : MtM X "list.extend" (rExt X.K) := by
  intro pins s σ H x vs v us Q I rx rv h
  obtain ⟨l, b, xs, zs, rfl, rfl, hH, hB, hz, q⟩ := h
  cases rx
  obtain ⟨u, rfl, ru⟩ := rv.one
  cases ru
  obtain ⟨z, its, n, r, hl, e⟩ := I.lstM hH
  have fin : ∀ its2 : List Value, Vals zs its2 → Inv X pins σ (upd H l (.lst (xs ++ zs))) { s with heap := s.heap.update l (Obj.mapSeq fun x => x ++ its2.toArray), toks := s.toks } := fun its2 r2 =>
    I.lset (its' := its ++ its2) hH e (by simp) (r.append r2) (by rw [List.length_append]; omega)
  rcases hB with hB | hB
  · obtain ⟨z2, its2, n2, r2, hl2, e2⟩ := I.lstM hB
    have hsz : its.toArray.size + its2.toArray.size ≤ sizeLine := by rw [List.size_toArray, List.size_toArray]; omega
    have hlong : ¬ (!its.toArray.isEmpty && Builtin.List.listTooLong (its.toArray.size + its2.toArray.size)) = true := by
      rw [notLongL hsz, Bool.and_false]
      exact Bool.false_ne_true
    refine call_meets F.slot_list_extend ⟨_, e, rfl⟩ F.entry_list_extend (F.args_list_extend_2 _ _)
      (AutoSeq1.list_extend_list_list_0 l its.toArray n b its2.toArray n2 hlong (by rw [List.size_toArray]; omega) (by omega)) ⟨e, e2, ?_⟩
    exact ⟨.non, _, fin its2 r2, rfl, q⟩
  · obtain ⟨its2, r2, ⟨o, e2, hc, n2, hd⟩, hz2⟩ := I.tuple hB
    have hl2 := r2.length
    have hsz : its.toArray.size + its2.toArray.size ≤ sizeLine := by rw [List.size_toArray, List.size_toArray]; omega
    have hlong : ¬ (!its.toArray.isEmpty && Builtin.List.listTooLong (its.toArray.size + its2.toArray.size)) = true := by
      rw [notLongL hsz, Bool.and_false]
      exact Bool.false_ne_true
    obtain ⟨oc, od, dt, sl⟩ := o
    simp only at hc hd
    subst hc hd
    refine call_meets F.slot_list_extend ⟨_, e, rfl⟩ F.entry_list_extend (F.args_list_extend_2 _ _)
      (extend_tupleD l its.toArray n b its2.toArray n2 od sl hlong (by rw [List.size_toArray]; omega) (by omega)) ⟨e, e2, ?_⟩
    exact ⟨.non, _, fin its2 r2, rfl, q⟩
end
end DS
end
section
set_option maxRecDepth 100000
set_option maxHeartbeats 1000000
/-! DS5: operators over data. -/
namespace DS
open PySem PySem.Spec PyProof.Rows L2

/-! ### a datum as the library's datum -/
mutual
def D.py : D → PyData
  | .bl b => .bool b
  | .int i => .int i
  | .str x => .str x
  | .lst xs => .list (D.pyL xs)
  | .tup xs => .tuple (D.pyL xs)
  | .non => .none
  | .ins _ _ _ => .none | .dk _ _ => .none | .dt _ _ => .none | .ty _ => .none | .cls _ => .none | .scr _ => .none | .pen => .none | .exc _ _ _ => .none | .par _ => .none
def D.pyL : List D → List PyData
  | [] => []
  | d :: ds => d.py :: D.pyL ds
end
mutual
def D.plain : D → Bool
  | .bl _ => true
  | .int _ => true
  | .str _ => true
  | .lst xs => D.plainL xs
  | .tup xs => D.plainL xs
  | .non => true
  | .ins _ _ _ => false | .dk _ _ => false | .dt _ _ => false | .ty _ => false | .cls _ => false | .scr _ => false | .pen => false | .exc _ _ _ => false | .par _ => false
def D.plainL : List D → Bool
  | [] => true
  | d :: ds => d.plain && D.plainL ds
end
theorem D.pyL_map : ∀ ds : List D, D.pyL ds = ds.map D.py
  | [] => by simp [D.pyL]
  | d :: ds => by simp [D.pyL, D.pyL_map ds]
theorem D.plainL_all : ∀ ds : List D, D.plainL ds = ds.all D.plain
  | [] => by simp [D.plainL]
  | d :: ds => by simp [D.plainL, D.plainL_all ds]
section
variable {K : KF} {pa : Option Addr} {F : FS} {H : Hp}
mutual
theorem Rep.dp : ∀ (d : D) {v : V}, Rep K pa F H v d → d.plain = true → Dp K H v d.py
  | .non, _, h, _ => by cases h; exact .non
  | .bl _, _, h, _ => by cases h; exact .bl _
  | .int _, _, h, _ => by cases h; exact .int _
  | .str _, _, h, _ => by cases h; exact .str _
  | .lst ds, _, h, p => by cases h with | lst a b => exact .lst a.sq (RepAll.dp ds b p)
  | .tup ds, _, h, p => by cases h with | tup a b => exact .tup a.sq (RepAll.dp ds b p)
  | .ins _ _ _, _, _, p => by simp [D.plain] at p
  | .dk _ _, _, _, p => by simp [D.plain] at p
  | .dt _ _, _, _, p => by simp [D.plain] at p
  | .ty _, _, _, p => by simp [D.plain] at p
  | .cls _, _, _, p => by simp [D.plain] at p
  | .scr _, _, _, p => by simp [D.plain] at p
  | .pen, _, _, p => by simp [D.plain] at p
  | .exc _ _ _, _, _, p => by simp [D.plain] at p
  | .par _, _, _, p => by simp [D.plain] at p
theorem RepAll.dp : ∀ (ds : List D) {vs : List V}, RepAll K pa F H vs ds → D.plainL ds = true → DpAll K H vs (D.pyL ds)
  | [], _, h, _ => by cases h; exact .nil
  | d :: ds, _, h, p => by
    have p' : d.plain = true ∧ D.plainL ds = true := by simpa [D.plainL] using p
    cases h with
    | cons a b => exact .cons (Rep.dp d a p'.1) (RepAll.dp ds b p'.2)
end
theorem Vw.dp {d : D} {v : V} (h : Vw K pa F H v d) (p : d.plain = true) : Dp K H v d.py := by
  cases d with
  | lst ds => obtain ⟨a, vs, rfl, h1, h2⟩ := h; exact .lst (SqL.of h1) (RepAll.dp ds h2 p)
  | ins _ _ _ => simp [D.plain] at p
  | dk _ _ => simp [D.plain] at p
  | dt _ _ => simp [D.plain] at p
  | _ => exact Rep.dp _ h p
end
/-- what may be compared, shown: plain data, not too deep -/
def D.ok (d : D) : Bool := d.plain && SeqAt.shaped d.py
theorem D.ok_iff {d : D} (h : d.ok = true) : d.plain = true ∧ SeqAt.shaped d.py = true := by simpa [D.ok] using h
def D.eqv (x y : D) : Bool := PyData.eqv x.py y.py

/-! ### what operators do -/
def gAdd : D → D → (Bool × D → Prop) → Prop
  | .int i, .int j, P => P (false, .int (i + j))
  | .str a, .str b, P => a.length + b.length ≤ sizeLine ∧ P (false, .str (a ++ b))
  | .lst a, .lst b, P => a.length + b.length ≤ sizeLine ∧ P (true, .lst (a ++ b))
  | .tup a, .tup b, P => a.length + b.length ≤ sizeLine ∧ P (false, .tup (a ++ b))
  | _, _, _ => False
def gSub : D → D → (Bool × D → Prop) → Prop
  | .int i, .int j, P => P (false, .int (i - j))
  | _, _, _ => False
def gMul : D → D → (Bool × D → Prop) → Prop
  | .int i, .int j, P => (CMul i j ∨ CMulW i j) ∧ P (false, .int (i * j))
  | .lst a, .int k, P => (-(2 ^ 63) ≤ k ∧ k < 2 ^ 63 ∧ a.length * k.toNat ≤ sizeLine) ∧ P (true, .lst (List.replicate k.toNat a).flatten)
  | .tup a, .int k, P => (a ≠ [] ∧ 2 ≤ k ∧ k ≤ 1000 ∧ a.length ≤ 1000) ∧ P (false, .tup (List.replicate k.toNat a).flatten)
  | _, _, _ => False
def gFdiv : D → D → (Bool × D → Prop) → Prop
  | .int i, .int j, P => (CDiv i j ∨ CDivW i j) ∧ P (false, .int (i / j))
  | _, _, _ => False
def gMod : D → D → (Bool × D → Prop) → Prop
  | .int i, .int j, P => 0 < j ∧ P (false, .int (i % j))
  | _, _, _ => False
def gPow : D → D → (Bool × D → Prop) → Prop
  | .int i, .int j, P => CPow i j ∧ P (false, .int (i ^ j.toNat))
  | _, _, _ => False
def gNeg : D → (Bool × D → Prop) → Prop
  | .int i, P => P (false, .int (-i))
  | _, _ => False
def gLt : D → D → (Bool × D → Prop) → Prop
  | .int i, .int j, P => P (false, .bl (decide (i < j)))
  | .str a, .str b, P => P (false, .bl (decide (a.cps.toList < b.cps.toList)))
  | _, _, _ => False
def gLe : D → D → (Bool × D → Prop) → Prop
  | .int i, .int j, P => P (false, .bl (decide (i ≤ j)))
  | _, _, _ => False
def gGt : D → D → (Bool × D → Prop) → Prop
  | .int i, .int j, P => P (false, .bl (decide (j < i)))
  | _, _, _ => False
def gGe : D → D → (Bool × D → Prop) → Prop
  | .int i, .int j, P => P (false, .bl (decide (j ≤ i)))
  | _, _, _ => False
def gEq (x y : D) (P : Bool × D → Prop) : Prop := (x.ok = true ∧ y.ok = true) ∧ P (false, .bl (x.eqv y))
def gNe (x y : D) (P : Bool × D → Prop) : Prop := (x.ok = true ∧ y.ok = true) ∧ P (false, .bl (!x.eqv y))
def isNonD : D → Bool
  | .non => true
  | _ => false
def gIs : D → D → (Bool × D → Prop) → Prop
  | x, .non, P => P (false, .bl (isNonD x))
  | .bl a, .bl b, P => P (false, .bl (decide (a = b)))
  | _, _, _ => False
def gIsNot : D → D → (Bool × D → Prop) → Prop
  | x, .non, P => P (false, .bl (!isNonD x))
  | .bl a, .bl b, P => P (false, .bl (!decide (a = b)))
  | _, _, _ => False
section
variable {X : Cx}
theorem os_add : OpS X (rOr (rI0 fun i j => .int (i + j)) (rOr (fun x y H Q => ∃ i j, x = .str i ∧ y = .str j ∧ i.length + j.length ≤ sizeLine ∧ Q (.str (i ++ j)) H) (rOr rCat (rCatF X.K)))) gAdd := by
  intro G F δ σ H v u x y P Q eK I hx hy g k
  unfold gAdd at g
  split at g
  · cases hx; cases hy
    exact .inl ⟨_, _, rfl, rfl, kont_flat I k g (.int _)⟩
  · cases hx; cases hy
    exact .inr (.inl ⟨_, _, rfl, rfl, g.1, kont_flat I k g.2 (.str _)⟩)
  · obtain ⟨a, vs, rfl, h1, h2⟩ := hx
    obtain ⟨b, us, rfl, h3, h4⟩ := hy
    refine .inr (.inr (.inl ⟨a, b, vs, us, rfl, rfl, h1, h3, by rw [h2.len, h4.len]; exact g.1, fun p hp => ?_⟩))
    exact kont_new I k g.2 hp fun H' e o => ⟨_, o, (h2.ext e).append (h4.ext e)⟩
  · rename_i as bs
    rw [show VwG G F H v (.tup as) = Rep G.K G.pa F H v (.tup as) from rfl] at hx
    rw [show VwG G F H u (.tup bs) = Rep G.K G.pa F H u (.tup bs) from rfl] at hy
    rw [← eK]
    cases hx with
    | @tup a vs ds h1 h2 =>
      cases hy with
      | @tup b us es h3 h4 =>
        refine .inr (.inr (.inr ⟨_, _, _, _, rfl, rfl, h1.sq, h3.sq, by rw [h2.len, h4.len]; exact g.1, fun z => ?_, fun _ z => ?_, fun _ _ ob p ho hp => ?_⟩))
        · subst z
          cases h2
          exact kont_flat I k g.2 (.tup h3 h4)
        · subst z
          cases h4
          rw [List.append_nil] at g
          exact kont_flat I k g.2 (.tup h1 h2)
        · exact kont_frz I k g.2 hp fun F' H' e f o => .tup ⟨f, ob, o, ho⟩ ((h2.ext e).append (h4.ext e))
  · exact g.elim
theorem os_sub : OpS X (rI0 fun i j => .int (i - j)) gSub := by
  intro G F δ σ H v u x y P Q eK I hx hy g k
  unfold gSub at g
  split at g
  · cases hx; cases hy; exact ⟨_, _, rfl, rfl, kont_flat I k g (.int _)⟩
  · exact g.elim
theorem os_mul : OpS X (rOr (rI (fun i j => CMul i j ∨ CMulW i j) fun i j => .int (i * j)) (rOr rRep (rRepF X.K))) gMul := by
  intro G F δ σ H v u x y P Q eK I hx hy g k
  unfold gMul at g
  split at g
  · cases hx; cases hy; exact .inl ⟨_, _, rfl, rfl, g.1, kont_flat I k g.2 (.int _)⟩
  · obtain ⟨a, vs, rfl, h1, h2⟩ := hx
    cases hy
    refine .inr (.inl ⟨a, _, vs, rfl, rfl, h1, g.1.1, g.1.2.1, by rw [h2.len]; exact g.1.2.2, fun p hp => ?_⟩)
    exact kont_new I k g.2 hp fun H' e o => ⟨_, o, (h2.ext e).rep _⟩
  · rename_i as j
    rw [show VwG G F H v (.tup as) = Rep G.K G.pa F H v (.tup as) from rfl] at hx
    cases hy
    rw [← eK]
    cases hx with
    | @tup a vs ds h1 h2 =>
      refine .inr (.inr ⟨_, _, _, rfl, rfl, h1.sq, fun z => ?_, g.1.2.1, g.1.2.2.1, by rw [h2.len]; exact g.1.2.2.2, fun ob p ho hp => ?_⟩)
      · subst z; cases h2; exact g.1.1 rfl
      · exact kont_frz I k g.2 hp fun F' H' e f o => .tup ⟨f, ob, o, ho⟩ ((h2.ext e).rep _)
  · exact g.elim
theorem os_fdiv : OpS X (rI (fun i j => CDiv i j ∨ CDivW i j) fun i j => .int (i / j)) gFdiv := by
  intro G F δ σ H v u x y P Q eK I hx hy g k
  unfold gFdiv at g
  split at g
  · cases hx; cases hy; exact ⟨_, _, rfl, rfl, g.1, kont_flat I k g.2 (.int _)⟩
  · exact g.elim
theorem os_mod : OpS X (rI (fun _ j => 0 < j) fun i j => .int (i % j)) gMod := by
  intro G F δ σ H v u x y P Q eK I hx hy g k
  unfold gMod at g
  split at g
  · cases hx; cases hy; exact ⟨_, _, rfl, rfl, g.1, kont_flat I k g.2 (.int _)⟩
  · exact g.elim
theorem os_pow : OpS X (rI CPow fun i j => .int (i ^ j.toNat)) gPow := by
  intro G F δ σ H v u x y P Q eK I hx hy g k
  unfold gPow at g
  split at g
  · cases hx; cases hy; exact ⟨_, _, rfl, rfl, g.1, kont_flat I k g.2 (.int _)⟩
  · exact g.elim
theorem us_neg : UnS X (rU fun i => .int (-i)) gNeg := by
  intro G F δ σ H v x P Q eK I hx g k
  unfold gNeg at g
  split at g
  · cases hx; exact ⟨_, rfl, kont_flat I k g (.int _)⟩
  · exact g.elim
theorem os_lt : OpS X (rOr (rI0 fun i j => .bl (decide (i < j))) (fun x y H Q => ∃ i j, x = .str i ∧ y = .str j ∧ Q (.bl (decide (i.cps.toList < j.cps.toList))) H)) gLt := by
  intro G F δ σ H v u x y P Q eK I hx hy g k
  unfold gLt at g
  split at g
  · cases hx; cases hy; exact .inl ⟨_, _, rfl, rfl, kont_flat I k g (.bl _)⟩
  · cases hx; cases hy; exact .inr ⟨_, _, rfl, rfl, kont_flat I k g (.bl _)⟩
  · exact g.elim
theorem os_le : OpS X (rI0 fun i j => .bl (decide (i ≤ j))) gLe := by
  intro G F δ σ H v u x y P Q eK I hx hy g k
  unfold gLe at g
  split at g
  · cases hx; cases hy; exact ⟨_, _, rfl, rfl, kont_flat I k g (.bl _)⟩
  · exact g.elim
theorem os_gt : OpS X (rI0 fun i j => .bl (decide (j < i))) gGt := by
  intro G F δ σ H v u x y P Q eK I hx hy g k
  unfold gGt at g
  split at g
  · cases hx; cases hy; exact ⟨_, _, rfl, rfl, kont_flat I k g (.bl _)⟩
  · exact g.elim
theorem os_ge : OpS X (rI0 fun i j => .bl (decide (j ≤ i))) gGe := by
  intro G F δ σ H v u x y P Q eK I hx hy g k
  unfold gGe at g
  split at g
  · cases hx; cases hy; exact ⟨_, _, rfl, rfl, kont_flat I k g (.bl _)⟩
  · exact g.elim
theorem os_eq : OpS X (rEqD X.K) gEq := by
  intro G F δ σ H v u x y P Q eK I hx hy g k
  obtain ⟨⟨h1, h2⟩, q⟩ := g
  obtain ⟨p1, s1⟩ := D.ok_iff h1
  obtain ⟨p2, s2⟩ := D.ok_iff h2
  rw [← eK]
  exact ⟨_, _, hx.dp p1, hy.dp p2, s1, s2, kont_flat I k q (.bl _)⟩
theorem os_ne : OpS X (rNeD X.K) gNe := by
  intro G F δ σ H v u x y P Q eK I hx hy g k
  obtain ⟨⟨h1, h2⟩, q⟩ := g
  obtain ⟨p1, s1⟩ := D.ok_iff h1
  obtain ⟨p2, s2⟩ := D.ok_iff h2
  rw [← eK]
  exact ⟨_, _, hx.dp p1, hy.dp p2, s1, s2, kont_flat I k q (.bl _)⟩
theorem Vw.isNon {K : KF} {pa : Option Addr} {F : FS} {H : Hp} {v : V} {d : D} (h : Vw K pa F H v d) : decide (v = .non) = isNonD d := by
  cases d with
  | lst ds => obtain ⟨a, vs, rfl, _⟩ := h; simp [isNonD]
  | ins _ _ _ => obtain ⟨a, dx, gs, rfl, _⟩ := h; simp [isNonD]
  | dk _ _ => obtain ⟨a, kvs, rfl, _⟩ := h; simp [isNonD]
  | dt _ _ => obtain ⟨a, kvs, rfl, _⟩ := h; simp [isNonD]
  | _ => cases (show Rep K pa F H v _ from h) <;> simp [isNonD]
theorem os_is : OpS X (rOr (fun x y H Q => y = .non ∧ Q (.bl (decide (x = .non))) H) (fun x y H Q => ∃ a b, x = .bl a ∧ y = .bl b ∧ Q (.bl (decide (a = b))) H)) gIs := by
  intro G F δ σ H v u x y P Q eK I hx hy g k
  unfold gIs at g
  split at g
  · cases hy; refine .inl ⟨rfl, ?_⟩; rw [hx.isNon]; exact kont_flat I k g (.bl _)
  · cases hx; cases hy; exact .inr ⟨_, _, rfl, rfl, kont_flat I k g (.bl _)⟩
  · exact g.elim
theorem os_isnot : OpS X (rOr (fun x y H Q => y = .non ∧ Q (.bl (!decide (x = .non))) H) (fun x y H Q => ∃ a b, x = .bl a ∧ y = .bl b ∧ Q (.bl (!decide (a = b))) H)) gIsNot := by
  intro G F δ σ H v u x y P Q eK I hx hy g k
  unfold gIsNot at g
  split at g
  · cases hy; refine .inl ⟨rfl, ?_⟩; rw [hx.isNon]; exact kont_flat I k g (.bl _)
  · cases hx; cases hy; exact .inr ⟨_, _, rfl, rfl, kont_flat I k g (.bl _)⟩
  · exact g.elim
theorem o_add : OpR X (binaryOp .Add) (rOr (rI0 fun i j => .int (i + j)) (rOr (fun x y H Q => ∃ i j, x = .str i ∧ y = .str j ∧ i.length + j.length ≤ sizeLine ∧ Q (.str (i ++ j)) H) (rOr rCat (rCatF X.K)))) := opOr op_add (opOr op_add_str (opOr op_cat op_catF))
theorem op_mul2 : OpR X (binaryOp .Mult) (rI (fun i j => CMul i j ∨ CMulW i j) fun i j => .int (i * j)) := fun pins s σ H x y v u Q I rx ry ⟨i, j, e1, e2, c, q⟩ =>
  c.elim (fun c => op_mul pins s σ H x y v u Q I rx ry ⟨i, j, e1, e2, c, q⟩) fun c => op_mulW pins s σ H x y v u Q I rx ry ⟨i, j, e1, e2, c, q⟩
theorem op_fdiv2 : OpR X (binaryOp .FloorDiv) (rI (fun i j => CDiv i j ∨ CDivW i j) fun i j => .int (i / j)) := fun pins s σ H x y v u Q I rx ry ⟨i, j, e1, e2, c, q⟩ =>
  c.elim (fun c => op_fdiv pins s σ H x y v u Q I rx ry ⟨i, j, e1, e2, c, q⟩) fun c => op_fdivW pins s σ H x y v u Q I rx ry ⟨i, j, e1, e2, c, q⟩
theorem o_mul : OpR X (binaryOp .Mult) (rOr (rI (fun i j => CMul i j ∨ CMulW i j) fun i j => .int (i * j)) (rOr rRep (rRepF X.K))) := opOr op_mul2 (opOr op_rep op_repF)
theorem o_lt : OpR X (compareOp .Lt) (rOr (rI0 fun i j => .bl (decide (i < j))) (fun x y H Q => ∃ i j, x = .str i ∧ y = .str j ∧ Q (.bl (decide (i.cps.toList < j.cps.toList))) H)) := opOr op_lt op_lt_str
theorem o_is : OpR X (compareOp .Is) (rOr (fun x y H Q => y = .non ∧ Q (.bl (decide (x = .non))) H) (fun x y H Q => ∃ a b, x = .bl a ∧ y = .bl b ∧ Q (.bl (decide (a = b))) H)) := opOr op_isN op_is_bl
theorem o_isnot : OpR X (compareOp .IsNot) (rOr (fun x y H Q => y = .non ∧ Q (.bl (!decide (x = .non))) H) (fun x y H Q => ∃ a b, x = .bl a ∧ y = .bl b ∧ Q (.bl (!decide (a = b))) H)) := opOr op_notN op_isnot_bl
end
end DS
end
section
set_option maxRecDepth 100000
set_option maxHeartbeats 1000000
/-! DS6: subscripts, slices, what is in what, built-in functions, over data. -/
namespace DS
open PySem PySem.Spec PyProof.Rows L2

/-! ### a[b] -/
def keyD : D → Option Key
  | .int i => some (.inl i)
  | .str x => some (.inr x)
  | _ => none
def keyF : D → Option Key
  | .int i => some (.inl i)
  | .str x => some (.inr x)
  | _ => none
def tkeyD : List D → Option (List Key)
  | [] => some []
  | d :: ds => match keyF d, tkeyD ds with
    | some k, some ks => some (k :: ks)
    | _, _ => none
/-- what a dict holds at a key -/
def getD {κ : Type} [DecidableEq κ] : List κ → List D → κ → Option D
  | k :: ks, x :: xs, y => if k = y then some x else getD ks xs y
  | _, _, _ => none
def gIx : D → D → (Bool × D → Prop) → Prop
  | .lst xs, .int i, P => match atI xs i with
    | some d => P (false, d)
    | none => False
  | .tup xs, .int i, P => match atI xs i with
    | some d => P (false, d)
    | none => False
  | .str z, .int i, P => z.length ≤ sizeLine ∧ match atI z.cps.toList i with
    | some c => P (false, .str ⟨#[c]⟩)
    | none => False
  | .dk ks xs, y, P => match keyD y with
    | some k => match getD ks xs k with
      | some d => P (false, d)
      | none => False
    | none => False
  | _, _, _ => False
section
variable {K : KF} {pa : Option Addr} {F : FS} {H : Hp}
theorem RepAll.atI : ∀ {vs : List V} {ds : List D} {i : Int} {d : D}, RepAll K pa F H vs ds → L2.atI ds i = some d → ∃ v, L2.atI vs i = some v ∧ Rep K pa F H v d := by
  intro vs ds i d r e
  unfold L2.atI at e ⊢
  rw [r.len]
  cases h : ixN ds.length i with
  | none => rw [h] at e; cases e
  | some j => rw [h] at e; exact r.get' e
theorem Rep.key {v : V} {d : D} {k : Key} (h : Rep K pa F H v d) (e : keyD d = some k) : v = kV k := by
  cases h <;> simp [keyD] at e <;> subst e <;> rfl
theorem RepAll.valV {κ : Type} [DecidableEq κ] : ∀ {kvs : List (κ × V)} {ks : List κ} {ds : List D} {k : κ}, kvs.map (·.1) = ks → RepAll K pa F H (kvs.map (·.2)) ds →
    match getD ks ds k with
    | some d => ∃ v, L2.valV kvs k = some v ∧ Rep K pa F H v d
    | none => L2.valV kvs k = none
  | [], _, _, _, e, r => by
    subst e
    cases r
    exact rfl
  | (k0, v0) :: kvs, _, _, k, e, r => by
    subst e
    cases r with
    | @cons _ _ d ds r t =>
      by_cases h : k0 = k
      · have e1 : getD (List.map (·.1) ((k0, v0) :: kvs)) (d :: ds) k = some d := by simp [getD, h]
        rw [e1]
        exact ⟨v0, valV_pos h, r⟩
      · have e1 : getD (List.map (·.1) ((k0, v0) :: kvs)) (d :: ds) k = getD (kvs.map (·.1)) ds k := by simp [getD, h]
        rw [e1, valV_neg (p := (k0, v0)) h]
        exact RepAll.valV rfl t
end
def rIxDc : R2 := fun x y H Q => ∃ a v, x = .ref a ∧ DGet H a y (some v) ∧ Q v H
section
variable {X : Cx}
theorem tail_any {value slice : Expr} {o i : Value} {T id : String} {Q : Value → Shared → Prop} {s : Shared} {A : Around} {E : Value → Shared → Prop} {prog : Program} {w : World} (hT : s.TypeIs o T) (hl : typeLookup (.type T) "__getitem__" = pure (some (.builtin id)))
    (hs : subscripted slice false o i = operate [o, i] (getItem o i)) (h : wpAny (model prog w) A (getItem o i) Q E s) : wpAny (model prog w) A (subscriptTail value slice o i) Q E s := by
  unfold subscriptTail
  apply wpAny_bind
  rw [getitemInPython_of_ne hT.not_modules]
  apply wpAny_bind
  refine wpAny_specialOf hT hl ?_
  have go : wpAny (model prog w) A (subscripted slice false o i) (fun r s3 => wpAny (model prog w) A (letTemporaryGo value o r >>= fun _ => pure r) Q E s3) E s := by
    rw [hs]
    refine wpAny_operating (wpAny_mono h ?_ fun _ _ z => z)
    intro r s3 q
    exact wpAny_bind (wpAny_letTemporaryGo (wpAny_pure q))
  first
    | exact wpAny_bind go
    | exact wpAny_pure (wpAny_bind go)
    | exact wpAny_bind (wpAny_pure (wpAny_bind go))
theorem ix_dict (hu : X.A.units + 1 < cLine) : IxR X rIxDc := by
  intro value slice pins s σ H x y v u Q I rx ry ⟨a, w, ex, g, q⟩ hs
  subst ex
  obtain rfl : v = Value.ref a := rx
  exact tail_any (dict_typeIs I g) PySem.F.slot_dict_getitem.lookup hs (d_getItem hu I g ry fun w' s3 I3 rw' => ⟨w, H, I3, rw', q⟩)
theorem i_ix (hu : X.A.units + 1 < cLine) : IxR X (rOr (rIx X.K) rIxDc) := ixOr ix_seq (ix_dict hu)
theorem os_ix : OpS X (rOr (rIx X.K) rIxDc) gIx := by
  intro G F δ σ H v u x y P Q eK I hx hy g k
  unfold gIx at g
  split at g
  · split at g
    · rename_i e
      obtain ⟨a, vs, rfl, h1, h2⟩ := hx
      cases hy
      obtain ⟨w, h3, h4⟩ := h2.atI e
      exact .inl (.inl ⟨a, vs, _, w, rfl, rfl, SqL.of h1, h3, kont_flat I k g h4⟩)
    · exact g.elim
  · split at g
    · rename_i as _ _ _ e
      rw [show VwG G F H v (.tup as) = Rep G.K G.pa F H v (.tup as) from rfl] at hx
      rw [← eK]
      cases hx with
      | tup h1 h2 =>
        cases hy
        obtain ⟨w, h3, h4⟩ := h2.atI e
        exact .inl (.inr (.inl ⟨_, _, _, w, rfl, rfl, h1.sq, h3, kont_flat I k g h4⟩))
    · exact g.elim
  · obtain ⟨z, g⟩ := g
    split at g
    · rename_i e
      cases hx; cases hy
      exact .inl (.inr (.inr ⟨_, _, _, rfl, rfl, z, e, kont_flat I k g (.str _)⟩))
    · exact g.elim
  · split at g
    · rename_i key ek
      split at g
      · rename_i d eg
        obtain ⟨a, kvs, rfl, h1, h2, h3⟩ := hx
        have ry : Rep G.K G.pa F H u y := by cases y <;> simp [keyD] at ek <;> exact hy
        have q := RepAll.valV (k := key) h2 h3
        rw [eg] at q
        obtain ⟨w, q1, q2⟩ := q
        refine .inr ⟨a, w, rfl, .inl ⟨kvs, key, .inl h1, ry.key ek, q1.symm⟩, kont_flat I k g q2⟩
      · exact g.elim
    · exact g.elim
  · exact g.elim

/-! ### y in x -/
def flatD : D → Bool
  | .non => true
  | .bl _ => true
  | .int _ => true
  | .str _ => true
  | _ => false
def gIn (neg : Bool) : D → D → (Bool × D → Prop) → Prop
  | x, .lst ys, P => (x.ok = true ∧ (D.lst ys).ok = true) ∧ P (false, .bl (if neg then !ys.any fun z => z.eqv x else ys.any fun z => z.eqv x))
  | x, .tup ys, P => (flatD x = true ∧ ys.all flatD = true) ∧ P (false, .bl (if neg then !ys.any fun z => z.eqv x else ys.any fun z => z.eqv x))
  | y, .dk ks xs, P => match keyD y with
    | some k => P (false, .bl (if neg then !(getD ks xs k).isSome else (getD ks xs k).isSome))
    | none => False
  | _, _, _ => False
def rDInc (neg : Bool) : R2 := fun y x H Q => ∃ a o, x = .ref a ∧ DGet H a y o ∧ Q (.bl (if neg then !o.isSome else o.isSome)) H
theorem op_inDc (hu : X.A.units + 1 < cLine) : OpR X (compareOp .In) (rDInc false) := by
  intro pins s σ H y x v u Q I ry rx ⟨a, o, ex, g, q⟩
  subst ex
  obtain rfl : u = Value.ref a := rx
  exact d_in hu I g ry fun s3 I3 => ⟨.bl o.isSome, H, I3, rfl, q⟩
theorem op_notInDc (hu : X.A.units + 1 < cLine) : OpR X (compareOp .NotIn) (rDInc true) := by
  intro pins s σ H y x v u Q I ry rx ⟨a, o, ex, g, q⟩
  subst ex
  obtain rfl : u = Value.ref a := rx
  exact d_notIn hu I g ry fun s3 I3 => ⟨.bl (!o.isSome), H, I3, rfl, q⟩
theorem o_in (hu : X.A.units + 65 < cLine) : OpR X (compareOp .In) (rOr (rInD X.K) (rOr (rIn X.K false) (rDInc false))) := opOr (op_inD hu) (opOr op_in_seq (op_inDc (by omega)))
theorem o_notin (hu : X.A.units + 65 < cLine) : OpR X (compareOp .NotIn) (rOr (rNotInD X.K) (rOr (rIn X.K true) (rDInc true))) := opOr (op_notInD hu) (opOr op_notIn_seq (op_notInDc (by omega)))
theorem flat_rep {K : KF} {pa : Option Addr} {F : FS} {H : Hp} {v : V} {d : D} (h : Vw K pa F H v d) (f : flatD d = true) : Rep K pa F H v d ∧ flatV v = true := by
  cases d <;> simp [flatD] at f <;> (cases (show Rep K pa F H v _ from h); exact ⟨h, rfl⟩)
theorem eqV_py {K : KF} {pa : Option Addr} {F : FS} {H : Hp} {v u : V} {d e : D} (h : Rep K pa F H v d) (h' : Rep K pa F H u e) (f : flatD d = true) (f' : flatD e = true) : eqV v u = D.eqv d e := by
  cases d <;> simp [flatD] at f <;> cases e <;> simp [flatD] at f' <;> cases h <;> cases h' <;> simp [eqV, D.eqv, D.py, PyData.eqv]
theorem flats {K : KF} {pa : Option Addr} {F : FS} {H : Hp} {x : V} {e : D} (hx : Rep K pa F H x e) (fx : flatD e = true) : ∀ {vs : List V} {ds : List D}, RepAll K pa F H vs ds → ds.all flatD = true →
    vs.all flatV = true ∧ (vs.any fun y => eqV y x) = ds.any fun z => z.eqv e
  | _, _, .nil, _ => ⟨rfl, rfl⟩
  | v :: vs, d :: ds, .cons r t, f => by
    rw [List.all_cons, Bool.and_eq_true] at f
    obtain ⟨h1, h2⟩ := flats hx fx t f.2
    have fv := (flat_rep r.vw f.1).2
    exact ⟨by rw [List.all_cons, fv, h1]; rfl, by rw [List.any_cons, List.any_cons, h2, eqV_py r hx f.1 fx]⟩
theorem pyL_any (ds : List D) (e : D) : ((D.pyL ds).any fun z => PyData.eqv z e.py) = ds.any fun z => z.eqv e := by
  induction ds with
  | nil => rfl
  | cons d ds ih => rw [show D.pyL (d :: ds) = d.py :: D.pyL ds from by simp [D.pyL], List.any_cons, List.any_cons, ih]; rfl
theorem vw_lst_dp {K : KF} {pa : Option Addr} {F : FS} {H : Hp} {v : V} {ds : List D} (h : Vw K pa F H v (.lst ds)) (p : (D.lst ds).plain = true) : Dp K H v (.list (D.pyL ds)) := by
  have := h.dp p
  rwa [show (D.lst ds).py = .list (D.pyL ds) from by simp [D.py]] at this
theorem shaped_lst {ds : List D} (h : (D.lst ds).ok = true) : SeqAt.shaped (.list (D.pyL ds)) = true := by
  have := (D.ok_iff h).2
  rwa [show (D.lst ds).py = .list (D.pyL ds) from by simp [D.py]] at this
theorem os_in_gen {neg : Bool} {r1 : R2} (h1 : ∀ x y H Q, (∃ d ds, Dp X.K H x d ∧ Dp X.K H y (.list ds) ∧ SeqAt.shaped d = true ∧ SeqAt.shaped (.list ds) = true ∧ Q (.bl (if neg then !ds.any fun z => PyData.eqv z d else ds.any fun z => PyData.eqv z d)) H) → r1 x y H Q) :
    OpS X (rOr r1 (rOr (rIn X.K neg) (rDInc neg))) (gIn neg) := by
  intro G F δ σ H v u x y P Q eK I hx hy g k
  unfold gIn at g
  split at g
  · obtain ⟨⟨a1, a2⟩, g⟩ := g
    refine .inl (h1 _ _ _ _ ?_)
    rw [← eK]
    refine ⟨_, _, hx.dp (D.ok_iff a1).1, vw_lst_dp hy (D.ok_iff a2).1, (D.ok_iff a1).2, shaped_lst a2, ?_⟩
    rw [pyL_any]
    exact kont_flat I k g (.bl _)
  · rename_i ys
    obtain ⟨⟨a1, a2⟩, g⟩ := g
    rw [show VwG G F H u (.tup ys) = Rep G.K G.pa F H u (.tup ys) from rfl] at hy
    rw [← eK]
    cases hy with
    | tup b1 b2 =>
      obtain ⟨c1, c2⟩ := flat_rep hx a1
      obtain ⟨e1, e2⟩ := flats c1 a1 b2 a2
      refine .inr (.inl ⟨_, _, rfl, .inr b1.sq, c2, e1, ?_⟩)
      unfold inV
      rw [e2]
      exact kont_flat I k g (.bl _)
  · rename_i ks xs
    split at g
    · rename_i key ek
      obtain ⟨a, kvs, rfl, h1', h2, h3⟩ := hy
      have rx : Rep G.K G.pa F H v x := by cases x <;> simp [keyD] at ek <;> exact hx
      have q := RepAll.valV (k := key) h2 h3
      refine .inr (.inr ⟨a, valV kvs key, rfl, .inl ⟨kvs, key, .inl h1', rx.key ek, rfl⟩, ?_⟩)
      have e : (valV kvs key).isSome = (getD ks xs key).isSome := by
        split at q
        · rename_i d eg
          obtain ⟨w, q1, _⟩ := q
          rw [q1, eg]; rfl
        · rename_i eg
          rw [q, eg]; rfl
      rw [e]
      exact kont_flat I k g (.bl _)
    · exact g.elim
  · exact g.elim
theorem os_in : OpS X (rOr (rInD X.K) (rOr (rIn X.K false) (rDInc false))) (gIn false) := os_in_gen fun x y H Q h => h
theorem os_notin : OpS X (rOr (rNotInD X.K) (rOr (rIn X.K true) (rDInc true))) (gIn true) := os_in_gen fun x y H Q h => h
end
end DS
end
section
set_option maxRecDepth 100000
set_option maxHeartbeats 1000000
/-! DS7: built-in functions over data. -/
namespace DS
open PySem PySem.Spec PyProof.Rows L2

/-! ### types -/
def tyOf : D → Option TyN
  | .non => some .non | .bl _ => some .bl | .int _ => some .int | .str _ => some .str
  | .lst _ => some .lst | .tup _ => some .tup | .dk _ _ => some .dct | .dt _ _ => some .dct
  | _ => none
/-- t is T or below it -/
def isT : TyN → TyN → Bool
  | .bl, .int => true
  | a, b => decide (a = b)
theorem kitB_isT (a b : TyN) : kitB a.name b.name = some (isT a b) := by
  cases a <;> cases b <;> decide +kernel
def tysOf : List D → Option (List TyN)
  | [] => some []
  | .ty t :: ds => (tysOf ds).map (t :: ·)
  | _ :: _ => none
def gIsi : List D → (Bool × D → Prop) → Prop
  | [x, .ty T], P => match tyOf x with
    | some t => P (false, .bl (isT t T))
    | none => False
  | [x, .tup cs], P => match tyOf x, tysOf cs with
    | some t, some Ts => P (false, .bl (Ts.any fun T => isT t T))
    | _, _ => False
  | _, _ => False
section
variable {X : Cx}
theorem tyX_of {K : KF} {pa : Option Addr} {F : FS} {H : Hp} {v : V} {d : D} {t : TyN} (h : Vw K pa F H v d) (e : tyOf d = some t) : TyX K H v (.type t.name) := by
  cases d with
  | lst ds => obtain ⟨a, vs, rfl, h1, _⟩ := h; cases e; exact .base (.lst h1)
  | ins _ _ _ => cases e
  | dk _ _ => obtain ⟨a, kvs, rfl, h1, _⟩ := h; cases e; exact .base (.dK h1)
  | dt _ _ => obtain ⟨a, kvs, rfl, h1, _⟩ := h; cases e; exact .base (.dT h1)
  | tup ds =>
    cases e
    cases (show Rep K pa F H v (.tup ds) from h) with
    | tup h1 h2 =>
      obtain ⟨_, o, e1, _⟩ := h1
      exact .fTuple e1
  | non => cases (show Rep K pa F H v .non from h); cases e; exact .base .non
  | bl b => cases (show Rep K pa F H v (.bl b) from h); cases e; exact .base (.bl b)
  | int b => cases (show Rep K pa F H v (.int b) from h); cases e; exact .base (.int b)
  | str b => cases (show Rep K pa F H v (.str b) from h); cases e; exact .base (.str b)
  | _ => cases e
theorem tys_ok {K : KF} {pa : Option Addr} {F : FS} {H : Hp} : ∀ {cs : List D} {vs : List V} {Ts : List TyN}, RepAll K pa F H vs cs → tysOf cs = some Ts → Paired ClsV vs (Ts.map fun T => Value.type T.name)
  | [], _, _, h, e => by cases h; cases e; exact .nil
  | d :: ds, _, _, h, e => by
    cases h with
    | cons r t =>
      cases d with
      | ty T =>
        cases r
        unfold tysOf at e
        cases e1 : tysOf ds with
        | none => rw [e1] at e; cases e
        | some Ts => rw [e1] at e; cases e; exact .cons (.ty _) (tys_ok t e1)
      | _ => cases e
theorem kitAny_tys {K : KF} (t : TyN) : ∀ Ts : List TyN, PySem.W.kitAny K (.type t.name) (Ts.map fun T => Value.type T.name) = some (Ts.any fun T => isT t T)
  | [] => rfl
  | T :: Ts => by
    rw [List.map_cons, List.any_cons]
    refine kitAny_cons (kit_ty (kitB_isT t T)) (fun h => ?_) fun h => ?_
    · rw [h, Bool.false_or]; exact kitAny_tys t Ts
    · rw [h, Bool.true_or]
theorem vals2D {G : Gd} {F : FS} {H : Hp} {vs : List V} {x y : D} (h : VwAll G F H vs [x, y]) : ∃ v u, vs = [v, u] ∧ VwG G F H v x ∧ VwG G F H u y := by
  cases h with
  | cons a t => cases t with
    | cons b t => cases t; exact ⟨_, _, rfl, a, b⟩
theorem vals1D {G : Gd} {F : FS} {H : Hp} {vs : List V} {x : D} (h : VwAll G F H vs [x]) : ∃ v, vs = [v] ∧ VwG G F H v x := by
  cases h with
  | cons a t => cases t; exact ⟨_, rfl, a⟩
/-- isinstance, a tuple of types -/
def rIsiF (K : KF) : List V → Hp → VK → Prop := fun xs H Q => ∃ (x : V) (tp : Addr) (cs : List V) (t : Value) (us : List Value) (b : Bool), xs = [x, .ref tp] ∧ SqT K H tp cs ∧ Paired ClsV cs us ∧ TyX K H x t ∧ PySem.W.kitAny K t us = some b ∧ Q (.bl b) H
theorem call_isiF : CallR X (.builtin "isinstance") (rIsiF X.K) := by
  intro pins s σ H xs us Q I r h
  obtain ⟨x, tp, cs, t, ws, b, rfl, sq, k, ty, e, q⟩ := h
  obtain ⟨u1, u2, rfl, r1, r2⟩ := vals2 r
  cases (show u2 = Value.ref tp from r2)
  obtain ⟨P, Z, p, hx⟩ := kit_of I r1 ty
  obtain ⟨its, rv, ⟨o, h1, h2, n, h3⟩, _⟩ := I.tuple sq
  have same := ClsV.all k rv
  subst same
  obtain ⟨oc, od, dt, sl⟩ := o
  dsimp only at h2 h3
  subst h2 h3
  exact PySem.W.kia_tup Z I.kIn p h1 e hx fun tk => ⟨.bl b, H, I.tok tk, rfl, q⟩
/-- isinstance where the tuple of types is a tracked one -/
theorem cs_isi : CallS X (rOrC (rIsi X.K) (rIsiF X.K)) gIsi := by
  intro G F δ σ H vs xs P Q eK I hv g k
  unfold gIsi at g
  split at g
  · split at g
    · rename_i e
      obtain ⟨v, u, rfl, h1, h2⟩ := vals2D hv
      cases h2
      refine .inl ⟨v, _, _, _, _, rfl, .ty _, ?_, kit_ty (kitB_isT _ _), kont_flat I k g (.bl _)⟩
      rw [← eK]; exact tyX_of h1 e
    · exact g.elim
  · split at g
    · rename_i cs _ _ t Ts e1 e2
      obtain ⟨v, u, rfl, h1, h2⟩ := vals2D hv
      have h1' := tyX_of h1 e1
      rw [eK] at h1'
      cases (show Rep G.K G.pa F H u (.tup cs) from h2) with
      | tup a b =>
        exact .inr ⟨v, _, _, _, _, _, rfl, by rw [← eK]; exact a.sq, tys_ok b e2, h1', kitAny_tys t Ts, kont_flat I k g (.bl _)⟩
    · exact g.elim
  · exact g.elim
theorem c_isi : CallR X (.builtin "isinstance") (rOrC (rIsi X.K) (rIsiF X.K)) := callOr call_isi call_isiF

/-! ### lists of whole numbers, truth values, texts -/
def intsD : List D → Option (List Int)
  | [] => some []
  | .int i :: ds => (intsD ds).map (i :: ·)
  | _ :: _ => none
def blsD : List D → Option (List Bool)
  | [] => some []
  | .bl i :: ds => (blsD ds).map (i :: ·)
  | _ :: _ => none
def strsD : List D → Option (List Str)
  | [] => some []
  | .str i :: ds => (strsD ds).map (i :: ·)
  | _ :: _ => none
theorem intsD_map : ∀ {ds : List D} {ns : List Int}, intsD ds = some ns → ds = ns.map D.int
  | [], _, e => by cases e; rfl
  | d :: ds, _, e => by
    cases d with
    | int i =>
      unfold intsD at e
      cases e1 : intsD ds with
      | none => rw [e1] at e; cases e
      | some ns => rw [e1] at e; cases e; rw [intsD_map e1]; rfl
    | _ => cases e
theorem blsD_map : ∀ {ds : List D} {ns : List Bool}, blsD ds = some ns → ds = ns.map D.bl
  | [], _, e => by cases e; rfl
  | d :: ds, _, e => by
    cases d with
    | bl i =>
      unfold blsD at e
      cases e1 : blsD ds with
      | none => rw [e1] at e; cases e
      | some ns => rw [e1] at e; cases e; rw [blsD_map e1]; rfl
    | _ => cases e
theorem strsD_map : ∀ {ds : List D} {ns : List Str}, strsD ds = some ns → ds = ns.map D.str
  | [], _, e => by cases e; rfl
  | d :: ds, _, e => by
    cases d with
    | str i =>
      unfold strsD at e
      cases e1 : strsD ds with
      | none => rw [e1] at e; cases e
      | some ns => rw [e1] at e; cases e; rw [strsD_map e1]; rfl
    | _ => cases e
@[simp] theorem intsD_of (ns : List Int) : intsD (ns.map D.int) = some ns := by
  induction ns with
  | nil => rfl
  | cons n ns ih => rw [List.map_cons]; unfold intsD; rw [ih]; rfl
@[simp] theorem blsD_of (ns : List Bool) : blsD (ns.map D.bl) = some ns := by
  induction ns with
  | nil => rfl
  | cons n ns ih => rw [List.map_cons]; unfold blsD; rw [ih]; rfl
@[simp] theorem strsD_of (ns : List Str) : strsD (ns.map D.str) = some ns := by
  induction ns with
  | nil => rfl
  | cons n ns ih => rw [List.map_cons]; unfold strsD; rw [ih]; rfl

/-! ### len, list, tuple, int, bool, abs, max, min, sum, all, any, sorted -/
def gLen : List D → (Bool × D → Prop) → Prop
  | [.lst xs], P => P (false, .int xs.length)
  | [.tup xs], P => P (false, .int xs.length)
  | [.str z], P => z.length ≤ sizeLine ∧ P (false, .int z.length)
  | [.dk ks _], P => P (false, .int ks.length)
  | _, _ => False
def gLst1 : List D → (Bool × D → Prop) → Prop
  | [.lst xs], P => P (true, .lst xs)
  | [.tup xs], P => P (true, .lst xs)
  | _, _ => False
def gTup1 : List D → (Bool × D → Prop) → Prop
  | [.lst xs], P => P (false, .tup xs)
  | [.tup xs], P => P (false, .tup xs)
  | _, _ => False
def gInt1 : List D → (Bool × D → Prop) → Prop
  | [.int i], P => P (false, .int i)
  | [.bl b], P => P (false, .int (if b then 1 else 0))
  | _, _ => False
def gBool1 : List D → (Bool × D → Prop) → Prop
  | [.int i], P => P (false, .bl (i != 0))
  | [.bl b], P => P (false, .bl b)
  | _, _ => False
def gAbs : List D → (Bool × D → Prop) → Prop
  | [.int i], P => P (false, .int (if i < 0 then -i else i))
  | _, _ => False
def gMax2 : List D → (Bool × D → Prop) → Prop
  | [.int i, .int j], P => P (false, .int (if j > i then j else i))
  | _, _ => False
def gMin2 : List D → (Bool × D → Prop) → Prop
  | [.int i, .int j], P => P (false, .int (if j < i then j else i))
  | _, _ => False
def gMax1 : List D → (Bool × D → Prop) → Prop
  | [.lst xs], P => match intsD xs with
    | some ns => 0 < ns.length ∧ ∀ m, m ∈ ns → (∀ y, y ∈ ns → y ≤ m) → P (false, .int m)
    | none => False
  | _, _ => False
def gMin1 : List D → (Bool × D → Prop) → Prop
  | [.lst xs], P => match intsD xs with
    | some ns => 0 < ns.length ∧ ∀ m, m ∈ ns → (∀ y, y ∈ ns → m ≤ y) → P (false, .int m)
    | none => False
  | _, _ => False
def gSum : List D → (Bool × D → Prop) → Prop
  | [.lst xs], P => match intsD xs with
    | some ns => P (false, .int ns.sum)
    | none => False
  | _, _ => False
def gAll : List D → (Bool × D → Prop) → Prop
  | [.lst xs], P => match blsD xs with
    | some ns => P (false, .bl (ns.all id))
    | none => False
  | _, _ => False
def gAny : List D → (Bool × D → Prop) → Prop
  | [.lst xs], P => match blsD xs with
    | some ns => P (false, .bl (ns.any id))
    | none => False
  | _, _ => False
def gStr1 : List D → (Bool × D → Prop) → Prop
  | [.int i], P => i.natAbs.log2 < 1920 ∧ P (false, .str (toString i))
  | [.str x], P => P (false, .str x)
  | _, _ => False
/-- what stands in a list or tuple of texts, of whole numbers -/
theorem os_seqI {K : KF} {pa : Option Addr} {F : FS} {H : Hp} {v : V} {xs : List D} {ns : List Int} (h : Vw K pa F H v (.lst xs)) (e : intsD xs = some ns) : ∃ a, v = .ref a ∧ SqL K H a (ns.map V.int) := by
  obtain ⟨a, vs, rfl, h1, h2⟩ := h
  rw [intsD_map e] at h2
  rw [h2.ints_of] at h1
  exact ⟨a, rfl, SqL.of h1⟩
theorem cs_len : CallS X (rOrC (fun xs H Q => ∃ x n, xs = [x] ∧ LenV X.K x H n ∧ Q (.int n) H) (fun xs H Q => ∃ a kvs, xs = [V.ref a] ∧ H a = some (.dK kvs) ∧ Q (.int kvs.length) H)) gLen := by
  intro G F δ σ H vs xs P Q eK I hv g k
  unfold gLen at g
  split at g
  · obtain ⟨v, rfl, h1⟩ := vals1D hv
    obtain ⟨a, us, rfl, h2, h3⟩ := h1
    refine .inl ⟨_, _, rfl, .inl ⟨us, SqL.of h2, rfl⟩, ?_⟩
    rw [h3.len]; exact kont_flat I k g (.int _)
  · rename_i as
    obtain ⟨v, rfl, h1⟩ := vals1D hv
    cases (show Rep G.K G.pa F H v (.tup as) from h1) with
    | @tup a us ds h2 h3 =>
      refine .inl ⟨_, _, rfl, .inr ⟨us, ?_, rfl⟩, ?_⟩
      · rw [← eK]; exact h2.sq
      · rw [h3.len]; exact kont_flat I k g (.int _)
  · obtain ⟨v, rfl, h1⟩ := vals1D hv
    cases h1
    exact .inl ⟨_, _, rfl, ⟨g.1, rfl⟩, kont_flat I k g.2 (.int _)⟩
  · obtain ⟨v, rfl, h1⟩ := vals1D hv
    obtain ⟨a, kvs, rfl, h2, h3, _⟩ := h1
    refine .inr ⟨a, kvs, rfl, h2, ?_⟩
    rw [← h3, List.length_map] at g
    exact kont_flat I k g (.int _)
  · exact g.elim
theorem c_len : CallR X (.builtin "len") (rOrC (fun xs H Q => ∃ x n, xs = [x] ∧ LenV X.K x H n ∧ Q (.int n) H) (fun xs H Q => ∃ a kvs, xs = [V.ref a] ∧ H a = some (.dK kvs) ∧ Q (.int kvs.length) H)) := callOr call_len call_lenD
theorem cs_lst1 : CallS X (fun xs H Q => ∃ p ys, xs = [.ref p] ∧ (SqL X.K H p ys ∨ SqT X.K H p ys) ∧ ∀ l, H l = none → Q (.ref l) (upd H l (.lst ys))) gLst1 := by
  intro G F δ σ H vs xs P Q eK I hv g k
  unfold gLst1 at g
  split at g
  · obtain ⟨v, rfl, h1⟩ := vals1D hv
    obtain ⟨a, us, rfl, h2, h3⟩ := h1
    exact ⟨a, us, rfl, .inl (SqL.of h2), fun l hl => kont_new I k g hl fun H' e o => ⟨_, o, h3.ext e⟩⟩
  · rename_i as
    obtain ⟨v, rfl, h1⟩ := vals1D hv
    cases (show Rep G.K G.pa F H v (.tup as) from h1) with
    | @tup a us ds h2 h3 =>
      refine ⟨_, us, rfl, .inr ?_, fun l hl => kont_new I k g hl fun H' e o => ⟨_, o, h3.ext e⟩⟩
      rw [← eK]; exact h2.sq
  · exact g.elim
theorem cs_tup1 : CallS X (fun xs H Q => ∃ p ys, xs = [.ref p] ∧ ((SqL X.K H p ys ∧ NewT H Q ys) ∨ (SqT X.K H p ys ∧ Q (.ref p) H))) gTup1 := by
  intro G F δ σ H vs xs P Q eK I hv g k
  unfold gTup1 at g
  split at g
  · obtain ⟨v, rfl, h1⟩ := vals1D hv
    obtain ⟨a, us, rfl, h2, h3⟩ := h1
    exact ⟨a, us, rfl, .inl ⟨SqL.of h2, fun ob l ho hl => kont_frz I k g hl fun F' H' e f o => .tup ⟨f, ob, o, ho⟩ (h3.ext e)⟩⟩
  · rename_i as
    obtain ⟨v, rfl, h1⟩ := vals1D hv
    have h1' : Rep G.K G.pa F H v (.tup as) := h1
    cases h1' with
    | @tup a us ds h2 h3 =>
      refine ⟨_, us, rfl, .inr ⟨?_, kont_flat I k g (.tup h2 h3)⟩⟩
      rw [← eK]; exact h2.sq
  · exact g.elim
theorem cs_int1 : CallS X (fun xs H Q => (∃ i, xs = [.int i] ∧ Q (.int i) H) ∨ ∃ k, xs = [.bl k] ∧ Q (.int (if k then 1 else 0)) H) gInt1 := by
  intro G F δ σ H vs xs P Q eK I hv g k
  unfold gInt1 at g
  split at g
  · obtain ⟨v, rfl, h1⟩ := vals1D hv
    cases h1; exact .inl ⟨_, rfl, kont_flat I k g (.int _)⟩
  · obtain ⟨v, rfl, h1⟩ := vals1D hv
    cases h1; exact .inr ⟨_, rfl, kont_flat I k g (.int _)⟩
  · exact g.elim
theorem cs_bool1 : CallS X (fun xs H Q => (∃ i, xs = [.int i] ∧ Q (.bl (i != 0)) H) ∨ ∃ k, xs = [.bl k] ∧ Q (.bl k) H) gBool1 := by
  intro G F δ σ H vs xs P Q eK I hv g k
  unfold gBool1 at g
  split at g
  · obtain ⟨v, rfl, h1⟩ := vals1D hv
    cases h1; exact .inl ⟨_, rfl, kont_flat I k g (.bl _)⟩
  · obtain ⟨v, rfl, h1⟩ := vals1D hv
    cases h1; exact .inr ⟨_, rfl, kont_flat I k g (.bl _)⟩
  · exact g.elim
theorem cs_abs : CallS X (fun xs H Q => ∃ i, xs = [.int i] ∧ Q (.int (if i < 0 then -i else i)) H) gAbs := by
  intro G F δ σ H vs xs P Q eK I hv g k
  unfold gAbs at g
  split at g
  · obtain ⟨v, rfl, h1⟩ := vals1D hv
    cases h1; exact ⟨_, rfl, kont_flat I k g (.int _)⟩
  · exact g.elim
theorem cs_max2 : CallS X (fun xs H Q => ∃ i j, xs = [.int i, .int j] ∧ Q (.int (if j > i then j else i)) H) gMax2 := by
  intro G F δ σ H vs xs P Q eK I hv g k
  unfold gMax2 at g
  split at g
  · obtain ⟨v, u, rfl, h1, h2⟩ := vals2D hv
    cases h1; cases h2; exact ⟨_, _, rfl, kont_flat I k g (.int _)⟩
  · exact g.elim
theorem cs_min2 : CallS X (fun xs H Q => ∃ i j, xs = [.int i, .int j] ∧ Q (.int (if j < i then j else i)) H) gMin2 := by
  intro G F δ σ H vs xs P Q eK I hv g k
  unfold gMin2 at g
  split at g
  · obtain ⟨v, u, rfl, h1, h2⟩ := vals2D hv
    cases h1; cases h2; exact ⟨_, _, rfl, kont_flat I k g (.int _)⟩
  · exact g.elim
theorem cs_max1 : CallS X (rMax X.K) gMax1 := by
  intro G F δ σ H vs xs P Q eK I hv g k
  unfold gMax1 at g
  split at g
  · split at g
    · rename_i e
      obtain ⟨v, rfl, h1⟩ := vals1D hv
      obtain ⟨a, rfl, h2⟩ := os_seqI h1 e
      rw [eK] at h2
      exact ⟨a, _, rfl, h2, g.1, fun m h3 h4 => kont_flat I k (g.2 m h3 h4) (.int _)⟩
    · exact g.elim
  · exact g.elim
theorem cs_min1 : CallS X (rMin X.K) gMin1 := by
  intro G F δ σ H vs xs P Q eK I hv g k
  unfold gMin1 at g
  split at g
  · split at g
    · rename_i e
      obtain ⟨v, rfl, h1⟩ := vals1D hv
      obtain ⟨a, rfl, h2⟩ := os_seqI h1 e
      rw [eK] at h2
      exact ⟨a, _, rfl, h2, g.1, fun m h3 h4 => kont_flat I k (g.2 m h3 h4) (.int _)⟩
    · exact g.elim
  · exact g.elim
theorem cs_sum : CallS X (rSum X.K) gSum := by
  intro G F δ σ H vs xs P Q eK I hv g k
  unfold gSum at g
  split at g
  · split at g
    · rename_i e
      obtain ⟨v, rfl, h1⟩ := vals1D hv
      obtain ⟨a, rfl, h2⟩ := os_seqI h1 e
      rw [eK] at h2
      exact ⟨a, _, rfl, h2, kont_flat I k g (.int _)⟩
    · exact g.elim
  · exact g.elim
theorem cs_all : CallS X (rAll X.K) gAll := by
  intro G F δ σ H vs xs P Q eK I hv g k
  unfold gAll at g
  split at g
  · split at g
    · rename_i e
      obtain ⟨v, rfl, h1⟩ := vals1D hv
      obtain ⟨a, us, rfl, h1, h2⟩ := h1
      rw [blsD_map e] at h2
      rw [h2.bls_of] at h1
      exact ⟨a, _, rfl, SqL.of h1, kont_flat I k g (.bl _)⟩
    · exact g.elim
  · exact g.elim
theorem cs_any : CallS X (rAny X.K) gAny := by
  intro G F δ σ H vs xs P Q eK I hv g k
  unfold gAny at g
  split at g
  · split at g
    · rename_i e
      obtain ⟨v, rfl, h1⟩ := vals1D hv
      obtain ⟨a, us, rfl, h1, h2⟩ := h1
      rw [blsD_map e] at h2
      rw [h2.bls_of] at h1
      exact ⟨a, _, rfl, SqL.of h1, kont_flat I k g (.bl _)⟩
    · exact g.elim
  · exact g.elim
theorem cs_str1 : CallS X (rOrC (fun xs H Q => ∃ i, xs = [.int i] ∧ i.natAbs.log2 < 1920 ∧ Q (.str (toString i)) H) (fun xs H Q => ∃ a, xs = [.str a] ∧ Q (.str a) H)) gStr1 := by
  intro G F δ σ H vs xs P Q eK I hv g k
  unfold gStr1 at g
  split at g
  · obtain ⟨v, rfl, h1⟩ := vals1D hv
    cases h1; exact .inl ⟨_, rfl, g.1, kont_flat I k g.2 (.str _)⟩
  · obtain ⟨v, rfl, h1⟩ := vals1D hv
    cases h1; exact .inr ⟨_, rfl, kont_flat I k g (.str _)⟩
  · exact g.elim
theorem c_str1 : CallR X (.type "str") (rOrC (fun xs H Q => ∃ i, xs = [.int i] ∧ i.natAbs.log2 < 1920 ∧ Q (.str (toString i)) H) (fun xs H Q => ∃ a, xs = [.str a] ∧ Q (.str a) H)) := callOr call_str_int SkE.call_str_str
end
end DS
end
section
set_option maxRecDepth 100000
set_option maxHeartbeats 1000000
/-! DS8: what changes an own list or dict; repr; ranges; slices; sorted; texts. -/
namespace DS
open PySem PySem.Spec PyProof.Rows L2

/-! ### methods that change an own list -/
def ownL (δ : Dst) (i : Nat) : Prop := match δ.sl[i]? with
  | some (some (true, .lst _)) => True
  | _ => False
def withL (δ : Dst) (i : Nat) (k : List D → Prop) : Prop := match δ.sl[i]? with
  | some (some (true, .lst xs)) => k xs
  | _ => False
def fMt (i : Nat) (g : List D → List D → (List D → D → Prop) → Prop) (fa : FX (List D)) : FX D := fun Ed δ Q => ownL δ i ∧ fa Ed δ fun ds δ1 => withL δ1 i fun xs => g xs ds fun ys r => Q r (δ1.put i (some (true, .lst ys)))
def MuS (X : Cx) (r : V → List V → Hp → VK → Prop) (g : List D → List D → (List D → D → Prop) → Prop) : Prop :=
  ∀ (G : Gd) (F : FS) (δ : Dst) (σ : L2.St) (H : Hp) (i : Nat) (a : Addr) (us vs : List V) (xs ds : List D) (P : List D → D → Prop) (Q : VK), G.K = X.K → Hold G F δ σ H → σ[i]? = some (some (.ref a)) → δ.sl[i]? = some (some (true, .lst xs)) →
    H a = some (.lst us) → RepAll G.K G.pa F H us xs → RepAll G.K G.pa F H vs ds → g xs ds P →
    (∀ ys r us' z, P ys r → (∀ H', Ext F H F H' → RepAll G.K G.pa F H' us' ys) → Rep G.K G.pa F H z r → Q z (upd H a (.lst us'))) → r (.ref a) vs H Q
theorem ownL_at {G : Gd} {F : FS} {δ : Dst} {σ : L2.St} {H : Hp} {i : Nat} (I : Hold G F δ σ H) (h : ownL δ i) : ∃ a xs vs, δ.sl[i]? = some (some (true, .lst xs)) ∧ σ[i]? = some (some (.ref a)) ∧ H a = some (.lst vs) ∧ RepAll G.K G.pa F H vs xs ∧ ¬ F a := by
  unfold ownL at h
  split at h
  · rename_i xs q
    obtain ⟨a, h1, h2⟩ := I.own i _ q
    obtain ⟨vs, h3, h4⟩ := h2.at_
    exact ⟨a, xs, vs, q, h1, h3, h4, h2.nf⟩
  · exact h.elim
theorem withL_own {δ : Dst} {i : Nat} {k : List D → Prop} (h : withL δ i k) : ownL δ i ∧ ∀ xs, δ.sl[i]? = some (some (true, .lst xs)) → k xs := by
  unfold withL at h
  split at h
  · rename_i xs q
    refine ⟨by unfold ownL; rw [q]; trivial, fun ys e => ?_⟩
    rw [q] at e
    cases e
    exact h
  · exact h.elim
section
variable {X : Cx} {E : XK} {e o : Expr} {es : List Expr} {name : Str} {apos cpos : Pos} {id : String} {r : V → List V → Hp → VK → Prop} {g : List D → List D → (List D → D → Prop) → Prop} {i : Nat} {fa : FX (List D)}
theorem rd_mt (hs : MuS X r g) {σ : L2.St} {H : Hp} {Q : VK} (h : rdA X.K E okG (fMt i g fa) σ H Q) : tBM X.K "list" r (tVar i) (rdA X.K E okA fa) σ H Q := by
  obtain ⟨G, F, δ, Qd, Ed, eK, I, ⟨h0, hf⟩, hx, k⟩ := h
  obtain ⟨a, xs, vs, q1, q2, q3, q4, q5⟩ := ownL_at I h0
  refine ⟨_, q2, .inl ⟨rfl, vs, SqL.of q3⟩, G, F, δ, _, Ed, eK, I, hf, hx, fun ds δ1 F1 H1 us p1 I1 s1 r1 => ?_⟩
  obtain ⟨w1, w2⟩ := withL_own p1
  obtain ⟨a', xs', vs', t1, t2, t3, t4, t5⟩ := ownL_at I1 w1
  have ea : a' = a := by
    rw [q2] at t2; cases t2; rfl
  subst ea
  refine hs G F1 δ1 σ H1 i a' vs' us xs' ds _ Q eK I1 t2 t1 t3 t4 r1 (w2 _ t1) fun ys rr us' z p rep rz => ?_
  obtain ⟨J, s⟩ := I1.write (d' := .lst ys) (o := .lst us') t1 t2 fun H' hh e' => ⟨us', e', rep H' ⟨fun _ f => f, fun b u f q => by rw [hh b (fun z => t5 (z ▸ f))]; exact q⟩⟩
  exact k rr _ F1 _ z p J (s1.trans s) (rz.ext s.ext)
theorem dg_mt (slot : Slot "list" name id) (hty : typeOf (.builtin id) = pure (.type "method_descriptor")) (hm : MtR X id r) (hs : MuS X r g) (ho : PE X o (tVar i)) (ha : DA X E (e :: es) fa)
    (hbase : attributeBase o name X.env (eval o X.env) = eval o X.env := by rfl)
    (hfew : ((backTo cpos (starEach (e :: es) X.env)).all (fun x => !x.1) && (backToKw cpos (keywordEach [] X.env)).all (fun x => x.1.isSome)
      && decide ((e :: es).length + ([] : List Keyword).length + (if ([] : List Keyword).isEmpty then 0 else 1) < 30)) = true := by rfl)
    (hline : (apos.endLine == cpos.line) = true := by rfl) (h1 : starEach (e :: es) X.env = (false, eval e X.env) :: starEach es X.env := by rfl) (h2 : (backTo cpos (starEach es X.env)).any (·.1) = false := by rfl) :
    DG X E (.Call (.Attribute o name apos) (e :: es) [] cpos) (fMt i g fa) := PE.imp (pe_bm PySem.F.plainAttrs_list slot hty hm ho ha hbase hfew hline h1 h2) fun _ _ _ h => rd_mt hs h
theorem dg_mt0 (slot : Slot "list" name id) (hty : typeOf (.builtin id) = pure (.type "method_descriptor")) (hm : MtR X id r) (hs : MuS X r g) (ho : PE X o (tVar i))
    (hbase : attributeBase o name X.env (eval o X.env) = eval o X.env := by rfl) (hline : (apos.endLine == cpos.line) = true := by rfl) : DG X E (.Call (.Attribute o name apos) [] [] cpos) (fMt i g aNil) :=
  PE.imp (pe_bm0 PySem.F.plainAttrs_list slot hty hm ho hbase hline) fun σ H Q h => by
    obtain ⟨x, h1, h2, h3⟩ := rd_mt hs h
    obtain ⟨G, F, δ, Qd, Ed, eK, I, hf, hx, k⟩ := h3
    exact ⟨x, h1, h2, k [] δ F H [] hf I Stp.refl .nil⟩
end
def gAppend (xs : List D) : List D → (List D → D → Prop) → Prop
  | [y], P => xs.length < sizeLine ∧ P (xs ++ [y]) .non
  | _, _ => False
def gPop (xs : List D) : List D → (List D → D → Prop) → Prop
  | [], P => match xs[xs.length - 1]? with
    | some y => P xs.dropLast y
    | none => False
  | _, _ => False
def gPopAt (xs : List D) : List D → (List D → D → Prop) → Prop
  | [.int i], P => (-(2 ^ 63) ≤ i ∧ i < 2 ^ 63) ∧ match seqIndex? i xs.length with
    | some k => match xs[k]? with
      | some y => P (xs.eraseIdx k) y
      | none => False
    | none => False
  | _, _ => False
def gExtend (xs : List D) : List D → (List D → D → Prop) → Prop
  | [.lst ys], P => xs.length + ys.length ≤ sizeLine ∧ P (xs ++ ys) .non
  | [.tup ys], P => xs.length + ys.length ≤ sizeLine ∧ P (xs ++ ys) .non
  | _, _ => False
section
variable {X : Cx}
theorem rep1 {K : KF} {pa : Option Addr} {F : FS} {H : Hp} {vs : List V} {d : D} (h : RepAll K pa F H vs [d]) : ∃ v, vs = [v] ∧ Rep K pa F H v d := by
  cases h with
  | cons r t => cases t; exact ⟨_, rfl, r⟩
theorem mu_append : MuS X rAppend gAppend := by
  intro G F δ σ H i a us vs xs ds P Q eK I h1 h2 h3 h4 h5 g k
  unfold gAppend at g
  split at g
  · obtain ⟨v, rfl, r⟩ := rep1 h5
    exact ⟨a, us, v, rfl, rfl, h3, by rw [h4.len]; exact g.1, k _ _ _ _ g.2 (fun H' e => (h4.ext e).append (.cons (r.ext e) .nil)) .non⟩
  · exact g.elim
theorem mu_pop : MuS X rPop gPop := by
  intro G F δ σ H i a us vs xs ds P Q eK I h1 h2 h3 h4 h5 g k
  unfold gPop at g
  split at g
  · split at g
    · rename_i y q
      cases h5
      obtain ⟨v, q1, q2⟩ := h4.get' q
      rw [← h4.len] at q1
      exact ⟨a, us, v, rfl, rfl, h3, q1, k _ _ _ _ g (fun H' e => (h4.ext e).dropLast) q2⟩
    · exact g.elim
  · exact g.elim
theorem mu_popAt : MuS X rPopAt gPopAt := by
  intro G F δ σ H i a us vs xs ds P Q eK I h1 h2 h3 h4 h5 g k
  unfold gPopAt at g
  split at g
  · obtain ⟨g1, g⟩ := g
    split at g
    · rename_i j ej
      split at g
      · rename_i y q
        obtain ⟨v, rfl, r⟩ := rep1 h5
        cases r
        obtain ⟨w, q1, q2⟩ := h4.get' q
        exact ⟨a, us, _, j, w, rfl, rfl, h3, g1.1, g1.2, by rw [h4.len]; exact ej, q1, k _ _ _ _ g (fun H' e => (h4.ext e).eraseIdx j) q2⟩
      · exact g.elim
    · exact g.elim
  · exact g.elim
theorem mu_extend : MuS X (rExt X.K) gExtend := by
  intro G F δ σ H i a us vs xs ds P Q eK I h1 h2 h3 h4 h5 g k
  unfold gExtend at g
  split at g
  · obtain ⟨v, rfl, r⟩ := rep1 h5
    cases r with
    | @lst b ws es q1 q2 => exact ⟨a, b, us, ws, rfl, rfl, h3, .inl q1.2, by rw [h4.len, q2.len]; exact g.1, k _ _ _ _ g.2 (fun H' e => (h4.ext e).append (q2.ext e)) .non⟩
  · obtain ⟨v, rfl, r⟩ := rep1 h5
    cases r with
    | @tup b ws es q1 q2 => exact ⟨a, b, us, ws, rfl, rfl, h3, .inr (eK ▸ q1.sq), by rw [h4.len, q2.len]; exact g.1, k _ _ _ _ g.2 (fun H' e => (h4.ext e).append (q2.ext e)) .non⟩
  · exact g.elim
end

/-! ### x[i] = v -/
def setDs {κ : Type} [DecidableEq κ] : List κ → List D → κ → D → List D
  | k0 :: ks, d :: ds, k, v => (if k0 = k then v else d) :: setDs ks ds k v
  | _, _, _, _ => []
def putKs {κ : Type} [DecidableEq κ] (ks : List κ) (k : κ) : List κ := if (ks.any fun x => decide (x = k)) = true then ks else ks ++ [k]
def putDs {κ : Type} [DecidableEq κ] (ks : List κ) (ds : List D) (k : κ) (v : D) : List D := if (ks.any fun x => decide (x = k)) = true then setDs ks ds k v else ds ++ [v]
/-- d[k] = v -/
def gPut : D → D → D → (D → Prop) → Prop
  | .lst xs, .int k, v, P => match ixN xs.length k with
    | some j => P (.lst (xs.set j v))
    | none => False
  | .dk ks xs, y, v, P => match keyD y with
    | some k => ks.length < sizeLine ∧ P (.dk (putKs ks k) (putDs ks xs k v))
    | none => False
  | .dt ks xs, .par ys, v, P => match tkeyD ys with
    | some k => ks.length < sizeLine ∧ P (.dt (putKs ks k) (putDs ks xs k v))
    | none => False
  | _, _, _, _ => False
abbrev FTw := EdT → D → Dst → (Dst → Prop) → Prop
def rdTw (K : KF) (E : XK) (g : FTw) : TG := fun v σ H Q => ∃ (G : Gd) (F : FS) (δ : Dst) (d : D) (Qd : Dst → Prop) (Ed : EdT), G.K = K ∧ Hold G F δ σ H ∧ Rep G.K G.pa F H v d ∧ g Ed d δ Qd ∧ XOk G E Ed ∧
  ∀ δ' F' σ' H', Qd δ' → Hold G F' δ' σ' H' → Ext F H F' H' → Q σ' H'
def rdTws (K : KF) (E : XK) (g : EdT → FTgs) : TGs := fun vs σ H Q => ∃ (G : Gd) (F : FS) (δ : Dst) (ds : List D) (Qd : Dst → Prop) (Ed : EdT), G.K = K ∧ Hold G F δ σ H ∧ RepAll G.K G.pa F H vs ds ∧ g Ed ds δ Qd ∧ XOk G E Ed ∧
  ∀ δ' F' σ' H', Qd δ' → Hold G F' δ' σ' H' → Ext F H F' H' → Q σ' H'
def DTw (X : Cx) (E : XK) (tg : Expr) (g : FTw) : Prop := PG X tg (rdTw X.K E g)
def DTws (X : Cx) (E : XK) (tgs : List Expr) (g : EdT → FTgs) : Prop := PGs X tgs (rdTws X.K E g)
def twTg (g : FTg) : FTw := fun _ => g
/-- name, or a tuple of names -/
theorem dtw_tg {X : Cx} {E : XK} {tg : Expr} {ws : List Nat} {g : FTg} (h : DTg X tg ws g) : DTw X E tg (twTg g) := PG.imp h fun v σ H Q ⟨G, F, δ, d, Qd, Ed, eK, I, r, hg, hx, k⟩ =>
  ⟨G, F, δ, d, Qd, eK, I, r, hg, fun δ' F' σ' H' q I' e' _ _ _ => k δ' F' σ' H' q I' e'⟩
def withO (δ : Dst) (i : Nat) (k : D → Prop) : Prop := match δ.sl[i]? with
  | some (some (true, d)) => k d
  | _ => False
def twSub (i : Nat) (fi : FX D) : FTw := fun Ed v δ Q => withO δ i fun _ => fi Ed δ fun y δ1 => withO δ1 i fun d => gPut d y v fun d' => Q (δ1.put i (some (true, d')))
def rSet2 : TSet := fun o i v H Q => rSetL o i v H Q ∨ rSetD o i v H Q
theorem set_2 {X : Cx} (hu : X.A.units + 1 < cLine) : PSet X rSet2 := fun pins s σ H o i v ov iv u Q I ro ri rv h => h.elim (set_list pins s σ H o i v ov iv u Q I ro ri rv) (set_dict hu pins s σ H o i v ov iv u Q I ro ri rv)
theorem put_any {κ : Type} [DecidableEq κ] (kvs : List (κ × V)) (k : κ) : (kvs.any fun kv => decide (kv.1 = k)) = ((kvs.map (·.1)).any fun x => decide (x = k)) := by rw [List.any_map]; rfl
theorem put_set {κ : Type} [DecidableEq κ] {K : KF} {pa : Option Addr} {F : FS} {H : Hp} {v : V} {d : D} (r : Rep K pa F H v d) (k : κ) : ∀ (kvs : List (κ × V)) (ds : List D), RepAll K pa F H (kvs.map (·.2)) ds →
    RepAll K pa F H ((kvs.map fun kv => if kv.1 = k then (kv.1, v) else kv).map (·.2)) (setDs (kvs.map (·.1)) ds k d) ∧ (kvs.map fun kv => if kv.1 = k then (kv.1, v) else kv).map (·.1) = kvs.map (·.1)
  | [], _, h => by cases h; exact ⟨.nil, rfl⟩
  | (k0, v0) :: kvs, _, h => by
    cases h with
    | cons a b =>
      obtain ⟨h1, h2⟩ := put_set r k kvs _ b
      refine ⟨?_, ?_⟩
      · show RepAll K pa F H ((if k0 = k then (k0, v) else (k0, v0)).2 :: _) ((if k0 = k then d else _) :: _)
        by_cases e : k0 = k
        · rw [if_pos e, if_pos e]; exact .cons r h1
        · rw [if_neg e, if_neg e]; exact .cons a h1
      · rw [List.map_cons, List.map_cons, h2, List.map_cons]
        by_cases e : k0 = k
        · rw [if_pos e]
        · rw [if_neg e]
theorem put_ok {κ : Type} [DecidableEq κ] {K : KF} {pa : Option Addr} {F : FS} {H : Hp} {v : V} {d : D} (r : Rep K pa F H v d) (k : κ) {kvs : List (κ × V)} {ks : List κ} {ds : List D} (e : kvs.map (·.1) = ks) (h : RepAll K pa F H (kvs.map (·.2)) ds) :
    (putK kvs k v).map (·.1) = putKs ks k ∧ RepAll K pa F H ((putK kvs k v).map (·.2)) (putDs ks ds k d) := by
  subst e
  unfold putK putKs putDs
  rw [put_any]
  obtain ⟨h1, h2⟩ := put_set r k kvs ds h
  split
  · exact ⟨h2, h1⟩
  · rw [List.map_append, List.map_append]
    exact ⟨rfl, h.append (.cons r .nil)⟩
theorem tkey_ok {K : KF} {pa : Option Addr} {F : FS} {H : Hp} : ∀ {ys : List D} {vs : List V} {k : List Key}, RepAll K pa F H vs ys → tkeyD ys = some k → vs = k.map kV
  | [], _, _, h, e => by cases h; cases e; rfl
  | d :: ds, _, k, h, e => by
    cases h with
    | cons a b =>
      unfold tkeyD at e
      split at e
      · rename_i k0 ks e1 e2
        cases e
        rw [tkey_ok b e2]
        cases a <;> simp [keyF] at e1 <;> subst e1 <;> rfl
      · cases e
section
variable {X : Cx} {E : XK} {o ix e : Expr} {es : List Expr} {i : Nat} {fi : FX D} {pos : Pos}
theorem withO_at {G : Gd} {F : FS} {δ : Dst} {σ : L2.St} {H : Hp} {k : D → Prop} (I : Hold G F δ σ H) (h : withO δ i k) : ∃ a d, δ.sl[i]? = some (some (true, d)) ∧ σ[i]? = some (some (.ref a)) ∧ Own G F H a d ∧ k d := by
  unfold withO at h
  split at h
  · rename_i d q
    obtain ⟨a, h1, h2⟩ := I.own i _ q
    exact ⟨a, d, q, h1, h2, h⟩
  · exact h.elim
theorem dtw_sub (hu : X.A.units + 1 < cLine) (ho : PE X o (tVar i)) (hi : DG X E ix fi)
    (ha : ∀ v, assign (.Subscript o ix pos) X.env v = (do
      let ov ← holding [v] (eval o X.env)
      let iv ← holding [v, ov] (eval ix X.env)
      standAt pos
      holding [v, ov, iv] (setItem ov iv v)
      release [v, ov, iv] []) := by intro _; rfl) : DTw X E (.Subscript o ix pos) (twSub i fi) :=
  PG.imp (pg_sub ho hi (set_2 hu) ha) fun v σ H Q ⟨G, F, δ, d, Qd, Ed, eK, I, r, hg, hx, k⟩ => by
    obtain ⟨a, d0, q1, q2, q3, hg⟩ := withO_at I hg
    refine ⟨_, q2, G, F, δ, _, Ed, eK, I, hg, hx, fun y δ1 F1 H1 iv p1 I1 s1 r1 => ?_⟩
    obtain ⟨a1, d1, t1, t2, t3, p2⟩ := withO_at I1 p1
    have ea : a1 = a := by rw [q2] at t2; cases t2; rfl
    subst ea
    have rv := r.ext s1.ext
    have fin : ∀ (d' : D) (ob : HO), (∀ H', (∀ b, b ≠ a1 → H' b = H1 b) → H' a1 = some ob → OwnO G.K G.pa F1 H' a1 d') → Qd (δ1.put i (some (true, d'))) → Q σ (upd H1 a1 ob) := fun d' ob hh p => by
      obtain ⟨J, s⟩ := I1.write t1 t2 hh
      exact k _ F1 σ _ p J ((s1.trans s).ext)
    have ext' : ∀ H', (∀ b, b ≠ a1 → H' b = H1 b) → Ext F1 H1 F1 H' := fun H' hh => ⟨fun _ f => f, fun b u f q => by rw [hh b (fun z => t3.nf (z ▸ f))]; exact q⟩
    have t4 := t3.at_
    unfold gPut at p2
    split at p2
    · split at p2
      · rename_i j ej
        obtain ⟨vs, h1, h2⟩ := t4
        cases r1
        exact .inl ⟨a1, vs, _, j, rfl, rfl, h1, by rw [h2.len]; exact ej, fin (.lst _) _ (fun H' hh e' => ⟨_, e', RepAll.set (rv.ext (ext' H' hh)) j (h2.ext (ext' H' hh))⟩) p2⟩
      · exact p2.elim
    · split at p2
      · rename_i key ek
        obtain ⟨kvs, h1, h2, h3⟩ := t4
        have ry : iv = kV key := r1.key ek
        subst ry
        refine .inr ⟨a1, _, rfl, .inl ⟨kvs, key, h1, rfl, by rw [← h2, List.length_map] at p2; exact p2.1, rfl⟩, fin (.dk _ _) _ (fun H' hh e' => ?_) p2.2⟩
        obtain ⟨c1, c2⟩ := put_ok (rv.ext (ext' H' hh)) key h2 (h3.ext (ext' H' hh))
        exact ⟨_, e', c1, c2⟩
      · exact p2.elim
    · split at p2
      · rename_i key ek
        obtain ⟨kvs, h1, h2, h3⟩ := t4
        cases r1 with
        | @par b ws es w0 w1 w2 =>
          have ew := tkey_ok w2 ek
          refine .inr ⟨a1, _, rfl, .inr ⟨kvs, key, b, h1, rfl, by rw [← ew]; exact w1, by rw [← h2, List.length_map] at p2; exact p2.1, rfl⟩, fin (.dt _ _) _ (fun H' hh e' => ?_) p2.2⟩
          obtain ⟨c1, c2⟩ := put_ok (rv.ext (ext' H' hh)) key h2 (h3.ext (ext' H' hh))
          exact ⟨_, e', c1, c2⟩
      · exact p2.elim
    · exact p2.elim
end
end DS
end
section
set_option maxRecDepth 100000
set_option maxHeartbeats 1000000
/-! DS9: targets in a row, repr, ranges, slices, sorted, index, count, join, {}. -/
namespace DS
open PySem PySem.Spec PyProof.Rows L2

/-! ### targets that are written, in a row -/
def twsNil : EdT → FTgs := fun _ ds δ Q => match ds with
  | [] => Q δ
  | _ => False
def twsCons (f : FTw) (g : EdT → FTgs) : EdT → FTgs := fun Ed ds δ Q => match ds with
  | d :: r => f Ed d δ fun δ1 => g Ed r δ1 Q
  | [] => False
def twSeq (n : Nat) (g : EdT → FTgs) : FTw := fun Ed d δ Q => match d with
  | .tup ds => ds.length = n ∧ g Ed ds δ Q
  | .lst ds => ds.length = n ∧ g Ed ds δ Q
  | _ => False
def sAsgW (f : FX D) (g : FTw) : FSt := fun Ed D δ => f Ed δ fun d δ' => g Ed d δ' D.nx
section
variable {X : Cx} {E : XK} {e : Expr} {es : List Expr} {pos : Pos}
theorem dtws_nil : DTws X E [] twsNil := PGs.imp pgs_nil fun vs σ H Q ⟨G, F, δ, ds, Qd, Ed, eK, I, r, hg, hx, k⟩ => by
  cases r with
  | nil => exact ⟨rfl, k δ F σ H hg I (Ext.refl F H)⟩
  | cons _ _ => exact hg.elim
theorem dtws_cons {f : FTw} {g : EdT → FTgs} (h1 : DTw X E e f) (h2 : DTws X E es g) (hs : (assignEach (e :: es) X.env).map (·.2) = assign e X.env :: (assignEach es X.env).map (·.2) := by rfl) : DTws X E (e :: es) (twsCons f g) :=
  PGs.imp (pgs_cons h1 h2 hs) fun vs σ H Q ⟨G, F, δ, ds, Qd, Ed, eK, I, r, hg, hx, k⟩ => by
    cases r with
    | nil => exact hg.elim
    | @cons v vs d ds r t =>
      exact ⟨v, vs, rfl, G, F, δ, d, _, Ed, eK, I, r, hg, hx, fun δ1 F1 σ1 H1 q1 I1 e1 => ⟨G, F1, δ1, ds, Qd, Ed, eK, I1, t.ext e1, q1, hx, fun δ2 F2 σ2 H2 q2 I2 e2 => k δ2 F2 σ2 H2 q2 I2 (e1.trans e2)⟩⟩
theorem dtw_seq {kk n : Nat} {g : EdT → FTgs} (hc : X.calm = true) (h : DTws X E es g) (hn : (assignEach es X.env).length = n := by rfl) (hst : (assignEach es X.env).findIdx? (·.1) = none := by rfl) : DTw X E (.Tuple es kk pos) (twSeq n g) := by
  have p1 := pg_tup (pos := pos) (k := kk) hc h hn hst
  have p2 := pg_lst (pos := pos) (k := kk) hc h hn hst
  refine ⟨fun pins s σ H v u Q I r q => ?_⟩
  obtain ⟨G, F, δ, d, Qd, Ed, eK, I', rd, hg, hx, k⟩ := q
  cases rd with
  | tup hq ra => exact p1.run pins s σ H _ u Q I r ⟨_, _, rfl, hq.sq, by rw [ra.len]; exact hg.1, G, F, δ, _, Qd, Ed, eK, I', ra, hg.2, hx, k⟩
  | lst hq ra => exact p2.run pins s σ H _ u Q I r ⟨_, _, rfl, hq.sq, by rw [ra.len]; exact hg.1, G, F, δ, _, Qd, Ed, eK, I', ra, hg.2, hx, k⟩
  | _ => exact hg.elim
theorem ds_asgW {tg : Expr} {f : FX D} {g : FTw} (he : DG X E e f) (hg : DTw X E tg g) (hs : swapsWithSole [tg] e pos.line X.env = pure false := by rfl) (hw : swappedStores [tg] e X.env = pure none := by rfl)
    (h1 : (assignEach [tg] X.env).map (·.2) = [assign tg X.env] := by rfl) : DSt X E (.Assign [tg] e pos) (sAsgW f g) :=
  PS.imp (ps_asg he hg hs hw h1) fun D σ H ⟨G, F, δ, Dd, Ed, eK, I, hf, hx, k⟩ => ⟨G, F, δ, _, Ed, eK, I, hf, hx, fun d δ' F' H' v q I' e' r' =>
    ⟨G, F', δ', d, Dd.nx, Ed, eK, I', r', q, hx, fun δ2 F2 σ2 H2 q2 I2 _ => k.nx δ2 F2 σ2 H2 q2 I2⟩⟩
end

/-! ### ranges as arguments -/
def rgD (a b : Int) : List D := (List.range (b - a).toNat).map fun i => .int (a + (i : Nat))
theorem rgD_rep {K : KF} {pa : Option Addr} {F : FS} {H : Hp} (a b : Int) : RepAll K pa F H (rgV a b) (rgD a b) := by
  unfold rgV rgD
  generalize List.range (b - a).toNat = l
  induction l with
  | nil => exact .nil
  | cons x l ih => exact .cons (.int _) ih
def rdRg (K : KF) (E : XK) (f : FX (Int × Int)) : L2.St → Hp → (Int → Int → Hp → Prop) → Prop := fun σ H Q => ∃ (G : Gd) (F : FS) (δ : Dst) (Qd : Int × Int → Dst → Prop) (Ed : EdT), G.K = K ∧ Hold G F δ σ H ∧ f Ed δ Qd ∧ XOk G E Ed ∧
  ∀ a b δ' F' H', Qd (a, b) δ' → Hold G F' δ' σ H' → Stp G σ δ F H δ' F' H' → Q a b H'
def DRg (X : Cx) (E : XK) (e : Expr) (f : FX (Int × Int)) : Prop := PRg X e (rdRg X.K E f)
def fRg1 (f : FX D) : FX (Int × Int) := fun Ed δ Q => f Ed δ fun d δ' => match d with
  | .int n => Q (0, n) δ'
  | _ => False
def fRg2 (f g : FX D) : FX (Int × Int) := fun Ed δ Q => f Ed δ fun d δ1 => g Ed δ1 fun e δ2 => match d, e with
  | .int i, .int j => Q (i, j) δ2
  | _, _ => False
section
variable {X : Cx} {E : XK} {a b e : Expr} {p pos : Pos}
theorem drg_1 {f : FX D} (hg : Gl X "range") (hm : X.mg "range" = none) (ha : DG X E a f) (na : starEach [a] X.env = (false, eval a X.env) :: starEach [] X.env := by rfl) : DRg X E (.Call (.Name "range" p) [a] [] pos) (fRg1 f) := by
  intro pins s σ H Q I h
  refine prg_1 hg hm ha na pins s σ H Q I ?_
  obtain ⟨G, F, δ, Qd, Ed, eK, I', hf, hx, k⟩ := h
  refine ⟨G, F, δ, _, Ed, eK, I', hf, hx, fun d δ' F' H' v q I2 s2 r => ?_⟩
  cases d with
  | int n => cases r; exact ⟨n, rfl, k 0 n δ' F' H' q I2 s2⟩
  | _ => exact q.elim
theorem drg_2 {f g : FX D} (hg : Gl X "range") (hm : X.mg "range" = none) (ha : DG X E a f) (hb : DG X E b g) (na : starEach [a, b] X.env = (false, eval a X.env) :: starEach [b] X.env := by rfl)
    (nb : starEach [b] X.env = (false, eval b X.env) :: starEach [] X.env := by rfl) (hp : (backTo pos (starEach [b] X.env)).any (·.1) = false := by rfl) : DRg X E (.Call (.Name "range" p) [a, b] [] pos) (fRg2 f g) := by
  intro pins s σ H Q I h
  refine prg_2 hg hm ha hb na nb hp pins s σ H Q I ?_
  obtain ⟨G, F, δ, Qd, Ed, eK, I', hf, hx, k⟩ := h
  refine ⟨G, F, δ, _, Ed, eK, I', hf, hx, fun d δ' F' H' v q I2 s2 r => ⟨G, F', δ', _, Ed, eK, I2, q, hx, fun d2 δ2 F2 H2 v2 q2 I3 s3 r2 => ?_⟩⟩
  cases d with
  | int i =>
    cases d2 with
    | int j => cases r; cases r2; exact ⟨i, j, rfl, rfl, k i j δ2 F2 H2 q2 I3 (s2.trans s3)⟩
    | _ => exact q2.elim
  | _ => exact q2.elim
def fLstRg (f : FX (Int × Int)) : FX (Bool × D) := fun Ed δ Q => f Ed δ fun r δ' => RgOk r.1 r.2 ∧ Q (true, .lst (rgD r.1 r.2)) δ'
def fTupRg (f : FX (Int × Int)) : FX (Bool × D) := fun Ed δ Q => f Ed δ fun r δ' => RgOk r.1 r.2 ∧ Q (false, .tup (rgD r.1 r.2)) δ'
theorem do_listRg {f : FX (Int × Int)} (hc : X.calm = true) (hg : Gl X "list") (hm : X.mg "list" = none) (he : DRg X E e f) (na : starEach [e] X.env = (false, eval e X.env) :: starEach [] X.env := by rfl) : DO X E (.Call (.Name "list" p) [e] [] pos) (fLstRg f) :=
  PE.imp (pe_listRg hc hg hm he na) fun σ H Q ⟨G, F, δ, Qd, Ed, eK, I, hf, hx, k⟩ => ⟨G, F, δ, _, Ed, eK, I, hf, hx, fun a b δ1 F1 H1 q1 I1 s1 => ⟨q1.1, fun l hl => by
    refine kont_new I1 (P := fun r => Qd r δ1) (fun r F' H' z pp I' s' o' => k r δ1 F' H' z pp I' (s1.trans s') ⟨o'.1, fun w c hc => Classical.byContradiction fun n => s1.trk c n (o'.2 w c hc)⟩) q1.2 hl fun H' e' o => ?_
    exact ⟨_, o, rgD_rep a b⟩⟩⟩
theorem do_tupRg {f : FX (Int × Int)} (hc : X.calm = true) (hg : Gl X "tuple") (hm : X.mg "tuple" = none) (he : DRg X E e f) (na : starEach [e] X.env = (false, eval e X.env) :: starEach [] X.env := by rfl) : DO X E (.Call (.Name "tuple" p) [e] [] pos) (fTupRg f) :=
  PE.imp (pe_tupRgF hc hg hm he na) fun σ H Q ⟨G, F, δ, Qd, Ed, eK, I, hf, hx, k⟩ => ⟨G, F, δ, _, Ed, eK, I, hf, hx, fun a b δ1 F1 H1 q1 I1 s1 => ⟨q1.1, fun ob l ho hl => by
    refine kont_frz I1 (P := fun r => Qd r δ1) (fun r F' H' z pp I' s' o' => k r δ1 F' H' z pp I' (s1.trans s') ⟨o'.1, fun w c hc => Classical.byContradiction fun n => s1.trk c n (o'.2 w c hc)⟩) q1.2 hl fun F' H' e' f o => ?_
    exact .tup ⟨f, ob, o, ho⟩ (rgD_rep a b)⟩⟩
end

/-! ### slices -/
def cutD (xs : List D) (lo hi : Option Int) : List D := (xs.drop (HT.sIx xs.length 0 lo)).take (HT.sIx xs.length xs.length hi - HT.sIx xs.length 0 lo)
def rdPO (K : KF) (E : XK) (f : FX (Option Int)) : TO := fun σ H Q => ∃ (G : Gd) (F : FS) (δ : Dst) (Qd : Option Int → Dst → Prop) (Ed : EdT), G.K = K ∧ Hold G F δ σ H ∧ f Ed δ Qd ∧ XOk G E Ed ∧
  ∀ o δ' F' H', Qd o δ' → Hold G F' δ' σ H' → Stp G σ δ F H δ' F' H' → Q o H'
def DPO (X : Cx) (E : XK) (e : Option Expr) (f : FX (Option Int)) : Prop := PO X e (rdPO X.K E f)
def fNoP : FX (Option Int) := fun _ δ Q => Q none δ
def fPart (f : FX D) : FX (Option Int) := fun Ed δ Q => f Ed δ fun d δ' => match d with
  | .int i => Q (some i) δ'
  | _ => False
def gSl (lo hi : Option Int) : D → (Bool × D → Prop) → Prop
  | .lst xs, P => P (true, .lst (cutD xs lo hi))
  | .tup xs, P => P (false, .tup (cutD xs lo hi))
  | .str z, P => z.length ≤ sizeLine ∧ P (false, .str (cutS z lo hi))
  | .scr ns, P => P (true, .lst (cutD (ns.map D.int) lo hi))
  | _, _ => False
def fSl (x : FX Hd) (lo hi : FX (Option Int)) : FX (Bool × D) := fun Ed δ Q => x Ed δ fun hx δ1 => lo Ed δ1 fun l δ2 => hi Ed δ2 fun u δ3 => with1 hx δ3 fun d => gSl l u d fun r => Q r δ3
section
variable {X : Cx} {E : XK} {e : Expr} {lo hi : Option Expr} {p2 pos : Pos}
theorem dpo_none : DPO X E none fNoP := ⟨fun pins s σ H Q I ⟨G, F, δ, Qd, Ed, eK, I', hf, hx, k⟩ => po_none.run pins s σ H Q I (k none δ F H hf I' Stp.refl)⟩
theorem dpo_some {f : FX D} (h : DG X E e f) : DPO X E (some e) (fPart f) := ⟨fun pins s σ H Q I ⟨G, F, δ, Qd, Ed, eK, I', hf, hx, k⟩ => (po_some h).run pins s σ H Q I ⟨G, F, δ, _, Ed, eK, I', hf, hx, fun d δ' F' H' v q I2 s2 r => by
  cases d with
  | int i => cases r; exact ⟨i, rfl, k (some i) δ' F' H' q I2 s2⟩
  | _ => exact q.elim⟩⟩
def rSlOr (r s : V → Option Int → Option Int → Hp → VK → Prop) : V → Option Int → Option Int → Hp → VK → Prop := fun x l u H Q => r x l u H Q ∨ s x l u H Q
theorem slOr {r s : V → Option Int → Option Int → Hp → VK → Prop} (h : SlR X r) (k : SlR X s) : SlR X (rSlOr r s) := fun pins st σ H x v vl vu lo hi sl Q I rx hs pl pu q => q.elim (h pins st σ H x v vl vu lo hi sl Q I rx hs pl pu) (k pins st σ H x v vl vu lo hi sl Q I rx hs pl pu)
theorem RepAll.cut {K : KF} {pa : Option Addr} {F : FS} {H : Hp} {vs : List V} {ds : List D} (h : RepAll K pa F H vs ds) (lo hi : Option Int) : RepAll K pa F H (cutV vs lo hi) (cutD ds lo hi) := by
  unfold cutV cutD
  rw [h.len]
  exact (h.drop _).take _
theorem do_slice {fx : FX Hd} {fl fh : FX (Option Int)} (he : DH X E e fx) (hl : DPO X E lo fl) (hu : DPO X E hi fh) : DO X E (.Subscript e (.Slice lo hi none p2) pos) (fSl fx fl fh) :=
  PE.imp (pe_slice (slOr sl_list (slOr sl_tupF sl_str)) he hl hu) fun σ H Q ⟨G, F, δ, Qd, Ed, eK, I, hf, hx, k⟩ => by
    refine ⟨G, F, δ, _, Ed, eK, I, hf, hx, fun x δ1 F1 H1 v q1 I1 s1 r1 => ⟨G, F1, δ1, _, Ed, eK, I1, q1, hx, fun l δ2 F2 H2 q2 I2 s2 => ⟨G, F2, δ2, _, Ed, eK, I2, q2, hx, fun u δ3 F3 H3 q3 I3 s3 => ?_⟩⟩⟩
    unfold with1 at q3
    split at q3
    · rename_i dx hg
      have hv := HdOk.vw I3 (HdOk.ext (s2.trans s3).ext r1) hg
      have kk : Kont G F3 δ3 σ H3 (fun r => Qd r δ3) Q := fun r F' H' z pp I' s' o' => k r δ3 F' H' z pp I' (((s1.trans s2).trans s3).trans s') ⟨o'.1, fun w c hc => Classical.byContradiction fun n => ((s1.trans s2).trans s3).trk c n (o'.2 w c hc)⟩
      unfold gSl at q3
      split at q3
      · obtain ⟨a, vs, rfl, h1, h2⟩ := hv
        exact .inl ⟨a, vs, rfl, SqL.of h1, fun p hp => kont_new I3 kk q3 hp fun H' e' o => ⟨_, o, (h2.ext e').cut l u⟩⟩
      · rename_i ds
        cases (show Rep G.K G.pa F3 H3 v (.tup ds) from hv) with
        | @tup a vs _ h1 h2 =>
          have h2' := h2.cut l u
          refine .inr (.inl ⟨a, vs, rfl, h1.sq, fun ⟨z1, z2⟩ => ?_, fun _ ob p ho hp => kont_frz I3 kk q3 hp fun F' H' e' f o => .tup ⟨f, ob, o, ho⟩ ((h2.ext e').cut l u)⟩)
          have ec : cutD ds l u = ds := by
            unfold cutD
            rw [← h2.len, z1, z2]
            simp [h2.len]
          rw [ec] at q3
          exact kont_flat I3 kk q3 (.tup h1 h2)
      · cases hv
        exact .inr (.inr ⟨_, rfl, q3.1, kont_flat I3 kk q3.2 (.str _)⟩)
      · rename_i ns
        cases (show Rep G.K G.pa F3 H3 v (.scr ns) from hv) with
        | @scr a _ h =>
          refine .inl ⟨a, ns.map V.int, rfl, ?_, fun p hp => kont_new I3 kk q3 hp fun H' e' o => ⟨_, o, RepAll.ints.cut l u⟩⟩
          rw [← eK]
          exact h.elim (fun h => .inl h.2) .inr
      · exact q3.elim
    · exact q3.elim
/-- xs[::-1] -/
def gRev : D → (Bool × D → Prop) → Prop
  | .lst xs, P => P (true, .lst xs.reverse)
  | .tup xs, P => P (false, .tup xs.reverse)
  | _, _ => False
theorem do_rev {k : Nat} {p1 p3 : Pos} {fx : FX Hd} (he : DH X E e fx) : DO X E (.Subscript e (.Slice none none (some (.UnaryOp .USub (.Constant (.int 1) k p1) p2)) p3) pos) (fUn gRev fx) :=
  PE.imp (DSF.pe_revA he) fun σ H Q h => by
    refine rd_un (r := fun x H1 Q => ∃ a xs, x = .ref a ∧ ((SqL X.K H1 a xs ∧ ∀ p, H1 p = none → Q (.ref p) (upd H1 p (.lst xs.reverse))) ∨ (SqT X.K H1 a xs ∧ NewT H1 Q xs.reverse))) (g := gRev) ?_ h
    intro G F δ σ H v x P Q eK I hx g k
    unfold gRev at g
    split at g
    · obtain ⟨a, vs, rfl, h1, h2⟩ := hx
      exact ⟨a, vs, rfl, .inl ⟨SqL.of h1, fun p hp => kont_new I k g hp fun H' e' o => ⟨_, o, (h2.ext e').reverse⟩⟩⟩
    · rename_i ds
      cases (show Rep G.K G.pa F H v (.tup ds) from hx) with
      | @tup a vs _ h1 h2 =>
        exact ⟨a, vs, rfl, .inr ⟨h1.sq, fun ob p ho hp => kont_frz I k g hp fun F' H' e' f o => .tup ⟨f, ob, o, ho⟩ ((h2.ext e').reverse)⟩⟩
    · exact g.elim
end
end DS
end
section
set_option maxRecDepth 100000
set_option maxHeartbeats 1000000
/-! DS10: sorted, sum of lists, repr, index, count, join, {}. -/
namespace DS
open PySem PySem.Spec PyProof.Rows L2

/-! ### sorted -/
def gSorted : List D → (Bool × D → Prop) → Prop
  | [.lst xs], P => match intsD xs, strsD xs with
    | some ns, _ => ∀ ns' : List Int, ns'.Perm ns → ns'.Pairwise (· ≤ ·) → P (true, .lst (ns'.map D.int))
    | none, some ss => ss.length < 64 ∧ ∀ ss' : List Str, ss'.Perm ss → sortedS ss' = true → P (true, .lst (ss'.map D.str))
    | none, none => False
  | [.tup xs], P => match intsD xs with
    | some ns => ∀ ns' : List Int, ns'.Perm ns → ns'.Pairwise (· ≤ ·) → P (true, .lst (ns'.map D.int))
    | none => False
  | _, _ => False
theorem RepAll.strs {K : KF} {pa : Option Addr} {F : FS} {H : Hp} {ns : List Str} : RepAll K pa F H (ns.map V.str) (ns.map D.str) := by
  induction ns with
  | nil => exact .nil
  | cons n ns ih => exact .cons (.str n) ih
section
variable {X : Cx}
theorem c_sorted : CallR X (.builtin "sorted") (rOrC (rSortedI X.K) (rOrC (rSortedS X.K) (DSX.rSortedTI X.K))) := callOr cr_sortedI (callOr cr_sortedS DSX.cr_sortedTI)
theorem cs_sorted : CallS X (rOrC (rSortedI X.K) (rOrC (rSortedS X.K) (DSX.rSortedTI X.K))) gSorted := by
  intro G F δ σ H vs xs P Q eK I hv g k
  unfold gSorted at g
  split at g
  · rename_i xs
    obtain ⟨v, rfl, h1⟩ := vals1D hv
    cases e : intsD xs with
    | some ns =>
      rw [e] at g
      obtain ⟨a, rfl, h2⟩ := os_seqI h1 e
      rw [eK] at h2
      exact .inl ⟨a, ns, rfl, h2, fun ns' p p1 p2 hp => kont_new I k (g ns' p1 p2) hp fun H' e' o => ⟨_, o, .ints⟩⟩
    | none =>
      rw [e] at g
      cases e2 : strsD xs with
      | some ss =>
        rw [e2] at g
        obtain ⟨a, us, rfl, h2, h3⟩ := h1
        rw [strsD_map e2] at h3
        rw [h3.strs_of] at h2
        exact .inr (.inl ⟨a, ss, rfl, SqL.of h2, g.1, fun ns' p p1 p2 hp => kont_new I k (g.2 ns' p1 p2) hp fun H' e' o => ⟨_, o, .strs⟩⟩)
      | none => rw [e2] at g; exact g.elim
  · rename_i xs
    obtain ⟨v, rfl, h1⟩ := vals1D hv
    cases e : intsD xs with
    | some ns =>
      rw [e] at g
      cases (show Rep G.K G.pa F H v (.tup xs) from h1) with
      | @tup a us ds h2 h3 =>
        rw [intsD_map e] at h3
        rw [h3.ints_of] at h2
        exact .inr (.inr ⟨a, ns, rfl, h2.sq, fun ns' p p1 p2 hp => kont_new I k (g ns' p1 p2) hp fun H' e' o => ⟨_, o, .ints⟩⟩)
    | none => rw [e] at g; exact g.elim
  · exact g.elim

/-! ### sum(lists, []) -/
def lstsD : List D → Option (List (List D))
  | [] => some []
  | .lst x :: ds => (lstsD ds).map (x :: ·)
  | _ :: _ => none
@[simp] theorem lstsD_of (xs : List (List D)) : lstsD (xs.map D.lst) = some xs := by
  induction xs with
  | nil => rfl
  | cons n ns ih => rw [List.map_cons]; unfold lstsD; rw [ih]; rfl
def gSum2 : List D → (Bool × D → Prop) → Prop
  | [.lst xs, .lst acc], P => match lstsD xs with
    | some yss => acc.length + yss.flatten.length ≤ sizeLine ∧ P (false, .lst (acc ++ yss.flatten))
    | none => False
  | _, _ => False
def fSum2 (fa : FX (List D)) : FX D := fun Ed δ Q => fa Ed δ fun ds δ1 => gSum2 ds fun r => Q r.2 δ1
theorem lsts_rep {K : KF} {pa : Option Addr} {F : FS} {H : Hp} : ∀ {xs : List D} {vs : List V} {yss : List (List D)}, RepAll K pa F H vs xs → lstsD xs = some yss →
    ∃ (ps : List Addr) (wss : List (List V)), vs = ps.map V.ref ∧ Paired (fun (p : Addr) (ws : List V) => H p = some (.lst ws)) ps wss ∧ RepAll K pa F H wss.flatten yss.flatten
  | [], _, _, h, e => by cases h; cases e; exact ⟨[], [], rfl, .nil, .nil⟩
  | d :: ds, _, _, h, e => by
    cases h with
    | cons r t =>
      cases d with
      | lst x =>
        unfold lstsD at e
        cases e1 : lstsD ds with
        | none => rw [e1] at e; cases e
        | some yss =>
          rw [e1] at e
          cases e
          obtain ⟨ps, wss, h1, h2, h3⟩ := lsts_rep t e1
          subst h1
          cases r with
          | @lst a ws _ a1 a2 => exact ⟨a :: ps, ws :: wss, rfl, .cons a1.2 h2, a2.append h3⟩
      | _ => cases e
theorem dg_sum2 {E : XK} {a b : Expr} {p pos : Pos} {fa : FX (List D)} (hc : X.calm = true) (hg : Gl X "sum") (hm : X.mg "sum" = none) (ha : DA X E [a, b] fa) (he : starEach [a, b] X.env = (false, eval a X.env) :: starEach [b] X.env := by rfl) (hpl : (backTo pos (starEach [b] X.env)).any (·.1) = false := by rfl) :
    DG X E (.Call (.Name "sum" p) [a, b] [] pos) (fSum2 fa) :=
  PE.imp (pe_callB (DSX.cr_sum2 hc) hg hm boot_sum ha (by decide) (by decide) he hpl) fun σ H Q ⟨G, F, δ, Qd, Ed, eK, I, hf, hx, k⟩ => ⟨G, F, δ, _, Ed, eK, I, hf, hx, fun ds δ1 F1 H1 vs q1 I1 s1 r1 => by
    have r1' : RepAll G.K G.pa F1 H1 vs ds := r1
    unfold gSum2 at q1
    split at q1
    · rename_i _ xs acc
      split at q1
      · rename_i yss e
        cases r1' with
        | @cons v _ _ _ ra rb =>
          cases rb with
          | @cons u _ _ _ rb rc =>
            cases rc
            cases ra with
            | @lst L ws _ a1 a2 =>
              cases rb with
              | @lst t us _ b1 b2 =>
                obtain ⟨ps, wss, e1, e2, e3⟩ := lsts_rep a2 e
                have whole := b2.append e3
                refine ⟨L, t, ps, wss, us, rfl, by rw [← e1]; exact a1.2, b1.2, e2, by rw [b2.len, e3.len]; exact q1.1, fun z => ?_, fun _ r hr => ?_⟩
                · subst z
                  cases e2
                  have : yss.flatten = [] := List.eq_nil_of_length_eq_zero e3.len.symm
                  rw [this, List.append_nil] at q1
                  exact k _ δ1 F1 H1 _ q1.2 I1 s1 (.lst b1 b2)
                · refine kont_frz I1 (P := fun z => z = (false, D.lst (acc ++ yss.flatten))) (fun z F' H' w pz I' s' o' => ?_) rfl hr fun F' H' e' f o => .lst ⟨f, o⟩ (whole.ext e')
                  subst pz
                  exact k _ δ1 F' H' w q1.2 I' (s1.trans s') o'.1
      · exact q1.elim
    · exact q1.elim⟩

/-! ### repr -/
def gRepr : List D → (Bool × D → Prop) → Prop
  | [.lst xs], P => ((D.lst xs).ok = true ∧ (D.lst xs).py.showable = true ∧ (D.lst xs).py.shown.length ≤ sizeLine) ∧ P (false, .str (D.lst xs).py.shown)
  | [.tup xs], P => ((D.tup xs).ok = true ∧ (D.tup xs).py.showable = true ∧ (D.tup xs).py.shown.length ≤ sizeLine) ∧ P (false, .str (D.tup xs).py.shown)
  | [.int i], P => i.natAbs.log2 < 1920 ∧ P (false, .str (toString i))
  | [.str x], P => (reprText x).length ≤ sizeLine ∧ P (false, .str (reprText x))
  | _, _ => False
mutual
theorem py_nodict : ∀ d : D, d.py.hasDict = false
  | .non => by simp [D.py, PyData.hasDict]
  | .bl _ => by simp [D.py, PyData.hasDict]
  | .int _ => by simp [D.py, PyData.hasDict]
  | .str _ => by simp [D.py, PyData.hasDict]
  | .lst xs => by simp [D.py, PyData.hasDict, pyL_nodict xs]
  | .tup xs => by simp [D.py, PyData.hasDict, pyL_nodict xs]
  | .ins _ _ _ => by simp [D.py, PyData.hasDict]
  | .dk _ _ => by simp [D.py, PyData.hasDict]
  | .dt _ _ => by simp [D.py, PyData.hasDict]
  | .ty _ => by simp [D.py, PyData.hasDict]
  | .cls _ => by simp [D.py, PyData.hasDict]
  | .scr _ => by simp [D.py, PyData.hasDict]
  | .pen => by simp [D.py, PyData.hasDict]
  | .exc _ _ _ => by simp [D.py, PyData.hasDict]
  | .par _ => by simp [D.py, PyData.hasDict]
theorem pyL_nodict : ∀ ds : List D, PyData.hasDictAll (D.pyL ds) = false
  | [] => by simp [D.pyL, PyData.hasDictAll]
  | d :: ds => by simp [D.pyL, PyData.hasDictAll, py_nodict d, pyL_nodict ds]
end
def rRepr (K : KF) : List V → Hp → VK → Prop := fun xs H Q => ∃ (a : Addr) (d : PyData), xs = [.ref a] ∧ Dp K H (.ref a) d ∧ d.hasDict = false ∧ d.depth ≤ 64 ∧ d.showable = true ∧ d.shown.length ≤ sizeLine ∧ Q (.str d.shown) H
theorem call_reprD0 (hg : Bare X.A) (hu : X.A.units + 65 < cLine) : CallR X (.builtin "repr") (rRepr X.K) := by
  intro pins s σ H xs us Q I r h
  obtain ⟨a, d, rfl, dp, nd, dep, sh, short, q⟩ := h
  obtain ⟨u, rfl, ru⟩ := vals1 r
  obtain ⟨as, rd⟩ := Dp.reads I d _ u dp ru
  obtain rfl : u = Value.ref a := ru
  exact PySem.repr_of_reads' rd sh (PyData.noDict_hsm nd) hg (by omega) (fun _ _ e => e) (fun h' t tk kept => ⟨.str _, H, I.kept kept, ⟨t, rfl⟩, q⟩) short
theorem call_repr_str : CallR X (.builtin "repr") (fun xs H Q => ∃ x, xs = [.str x] ∧ (reprText x).length ≤ sizeLine ∧ Q (.str (reprText x)) H) := by
  intro pins s σ H xs us Q I r h
  obtain ⟨x, rfl, hz, q⟩ := h
  obtain ⟨u, rfl, t, rfl⟩ := vals1 r
  exact PySem.P.repr_of_str ⟨.str _, H, I.tok _, ⟨_, rfl⟩, q⟩ hz
abbrev rReprA (K : KF) : List V → Hp → VK → Prop := rOrC (rRepr K) (rOrC (fun xs H Q => ∃ i, xs = [.int i] ∧ i.natAbs.log2 < 1920 ∧ Q (.str (toString i)) H) (fun xs H Q => ∃ x, xs = [.str x] ∧ (reprText x).length ≤ sizeLine ∧ Q (.str (reprText x)) H))
theorem call_reprD (hg : Bare X.A) (hu : X.A.units + 65 < cLine) : CallR X (.builtin "repr") (rReprA X.K) := callOr (call_reprD0 hg hu) (callOr SkE.call_repr_int call_repr_str)
theorem cs_repr : CallS X (rReprA X.K) gRepr := by
  intro G F δ σ H vs xs P Q eK I hv g k
  unfold gRepr at g
  split at g
  · obtain ⟨⟨g1, g2, g3⟩, g⟩ := g
    obtain ⟨v, rfl, h1⟩ := vals1D hv
    obtain ⟨p1, p2⟩ := D.ok_iff g1
    have dp := Vw.dp h1 p1
    rw [eK] at dp
    obtain ⟨a, us, rfl, _⟩ := h1
    exact .inl ⟨a, _, rfl, dp, py_nodict _, SeqAt.depth_of_shaped p2, g2, g3, kont_flat I k g (.str _)⟩
  · obtain ⟨⟨g1, g2, g3⟩, g⟩ := g
    obtain ⟨v, rfl, h1⟩ := vals1D hv
    obtain ⟨p1, p2⟩ := D.ok_iff g1
    have dp := Vw.dp h1 p1
    rw [eK] at dp
    rename_i as
    cases (show Rep G.K G.pa F H v (.tup as) from h1) with
    | tup => exact .inl ⟨_, _, rfl, dp, py_nodict _, SeqAt.depth_of_shaped p2, g2, g3, kont_flat I k g (.str _)⟩
  · obtain ⟨v, rfl, h1⟩ := vals1D hv
    cases h1
    exact .inr (.inl ⟨_, rfl, g.1, kont_flat I k g.2 (.str _)⟩)
  · obtain ⟨v, rfl, h1⟩ := vals1D hv
    cases h1
    exact .inr (.inr ⟨_, rfl, g.1, kont_flat I k g.2 (.str _)⟩)
  · exact g.elim

/-! ### methods that only read -/
def fMr (g : D → List D → (Bool × D → Prop) → Prop) (fo : FX Hd) (fa : FX (List Hd)) : FX (Bool × D) := fun Ed δ Q => fo Ed δ fun h δ1 => fa Ed δ1 fun hs δ2 => with1 h δ2 fun d => withs δ2 hs fun ds => g d ds fun r => Q r δ2
def MrS (X : Cx) (T : String) (r : V → List V → Hp → VK → Prop) (g : D → List D → (Bool × D → Prop) → Prop) : Prop :=
  ∀ (G : Gd) (F : FS) (δ : Dst) (σ : L2.St) (H : Hp) (v : V) (vs : List V) (x : D) (xs : List D) (P : Bool × D → Prop) (Q : VK), G.K = X.K → Hold G F δ σ H → VwG G F H v x → VwAll G F H vs xs → g x xs P → Kont G F δ σ H P Q → r v vs H Q
/-- the receiver's type -/
def recv (T : String) : D → Prop
  | .lst _ => T = "list"
  | .str _ => T = "str"
  | .dk _ _ => T = "dict"
  | .dt _ _ => T = "dict"
  | _ => False
theorem recv_ty {K : KF} {pa : Option Addr} {F : FS} {H : Hp} {v : V} {d : D} {T : String} (h : Vw K pa F H v d) (t : recv T d) : tyV K T v H := by
  cases d with
  | lst ds => obtain ⟨a, vs, rfl, h1, _⟩ := h; exact .inl ⟨t, vs, SqL.of h1⟩
  | str x => cases (show Rep K pa F H v (.str x) from h); exact t
  | dk _ _ => obtain ⟨a, kvs, rfl, h1, _⟩ := h; exact .inr (.inr (.inl ⟨t, .inl ⟨kvs, h1⟩⟩))
  | dt _ _ => obtain ⟨a, kvs, rfl, h1, _⟩ := h; exact .inr (.inr (.inl ⟨t, .inr ⟨kvs, h1⟩⟩))
  | _ => exact t.elim
def fMrT (T : String) (g : D → List D → (Bool × D → Prop) → Prop) (fo : FX Hd) (fa : FX (List Hd)) : FX (Bool × D) := fun Ed δ Q => fo Ed δ fun h δ1 => (with1 h δ1 fun d => recv T d) ∧ fa Ed δ1 fun hs δ2 => with1 h δ2 fun d => withs δ2 hs fun ds => g d ds fun r => Q r δ2
section
variable {E : XK} {e o : Expr} {es : List Expr} {name : Str} {apos cpos : Pos} {T id : String} {r : V → List V → Hp → VK → Prop} {g : D → List D → (Bool × D → Prop) → Prop} {fo : FX Hd} {fa : FX (List Hd)}
theorem with1_at {G : Gd} {F : FS} {δ : Dst} {σ : L2.St} {H : Hp} {v : V} {h : Hd} {k : D → Prop} (I : Hold G F δ σ H) (r : HdOk G F H σ v h) (w : with1 h δ k) : ∃ d, Vw G.K G.pa F H v d ∧ k d := by
  unfold with1 at w
  split at w
  · rename_i d q
    exact ⟨d, HdOk.vw I r q, w⟩
  · exact w.elim
theorem rd_mr (hs : MrS X T r g) {σ : L2.St} {H : Hp} {Q : VK} (h : rdA X.K E okO (fMrT T g fo fa) σ H Q) : tBM X.K T r (rdA X.K E okH fo) (rdA X.K E okHs fa) σ H Q := by
  obtain ⟨G, F, δ, Qd, Ed, eK, I, hf, hx, k⟩ := h
  refine ⟨G, F, δ, _, Ed, eK, I, hf, hx, fun x δ1 F1 H1 v q1 I1 s1 r1 => ?_⟩
  obtain ⟨d0, w1, w2⟩ := with1_at I1 r1 q1.1
  refine ⟨eK ▸ recv_ty w1 w2, G, F1, δ1, _, Ed, eK, I1, q1.2, hx, fun ys δ2 F2 H2 vs q2 I2 s2 r2 => ?_⟩
  obtain ⟨d, w3, w4⟩ := with1_at I2 (HdOk.ext s2.ext r1) q2
  obtain ⟨ds, w5, w6⟩ := withs_ok I2 r2 w4
  exact hs G F2 δ2 σ H2 v vs d ds _ Q eK I2 w3 w5 w6 fun z F' H' u p I' s' o' => k z δ2 F' H' u p I' ((s1.trans s2).trans s') ⟨o'.1, fun w a ha => Classical.byContradiction fun n => (s1.trans s2).trk a n (o'.2 w a ha)⟩
theorem do_mr (pa : PlainAttrs T) (slot : Slot T name id) (hty : typeOf (.builtin id) = pure (.type "method_descriptor")) (hm : MtR X id r) (hs : MrS X T r g) (ho : DH X E o fo) (ha : DHs X E (e :: es) fa)
    (hbase : attributeBase o name X.env (eval o X.env) = eval o X.env := by rfl)
    (hfew : ((backTo cpos (starEach (e :: es) X.env)).all (fun x => !x.1) && (backToKw cpos (keywordEach [] X.env)).all (fun x => x.1.isSome)
      && decide ((e :: es).length + ([] : List Keyword).length + (if ([] : List Keyword).isEmpty then 0 else 1) < 30)) = true := by rfl)
    (hline : (apos.endLine == cpos.line) = true := by rfl) (h1 : starEach (e :: es) X.env = (false, eval e X.env) :: starEach es X.env := by rfl) (h2 : (backTo cpos (starEach es X.env)).any (·.1) = false := by rfl) :
    DO X E (.Call (.Attribute o name apos) (e :: es) [] cpos) (fMrT T g fo fa) := PE.imp (pe_bm pa slot hty hm ho ha hbase hfew hline h1 h2) fun _ _ _ h => rd_mr hs h
end
/-- l.index(x) -/
def gIndex : D → List D → (Bool × D → Prop) → Prop
  | .lst xs, [y], P => (y.ok = true ∧ (D.lst xs).ok = true) ∧ match xs.findIdx? fun z => z.eqv y with
    | some j => P (false, .int j)
    | none => False
  | _, _, _ => False
theorem ms_index : MrS X "list" (rIndexD X.K) gIndex := by
  intro G F δ σ H v vs x xs P Q eK I hx hv g k
  unfold gIndex at g
  split at g
  · rename_i ys y
    obtain ⟨⟨g1, g2⟩, g⟩ := g
    split at g
    · rename_i j e
      obtain ⟨u, rfl, h1⟩ := vals1D hv
      have dl := vw_lst_dp hx (D.ok_iff g2).1
      have dy := Vw.dp h1 (D.ok_iff g1).1
      rw [eK] at dl dy
      obtain ⟨a, us, rfl, _⟩ := hx
      obtain ⟨hj, e1, e2⟩ := List.findIdx?_eq_some_iff_getElem.mp e
      refine ⟨a, u, _, _, j, (ys[j]).py, rfl, rfl, dl, dy, shaped_lst g2, (D.ok_iff g1).2, ?_, e1, fun m z' hm hz => ?_, kont_flat I k g (.int _)⟩
      · rw [D.pyL_map, List.getElem?_map, List.getElem?_eq_getElem hj]; rfl
      · rw [D.pyL_map, List.getElem?_map, List.getElem?_eq_getElem (by omega)] at hz
        cases hz
        have := e2 m hm
        simpa [D.eqv] using this
    · exact g.elim
  · exact g.elim
/-- l.count(x) -/
def gCount : D → List D → (Bool × D → Prop) → Prop
  | .lst xs, [y], P => (y.ok = true ∧ (D.lst xs).ok = true) ∧ P (false, .int (xs.countP fun z => z.eqv y : Nat))
  | _, _, _ => False
def rCntD (K : KF) : V → List V → Hp → VK → Prop := fun x xs H Q => ∃ (a : Addr) (y : V) (d : PyData) (ds : List PyData), x = .ref a ∧ xs = [y] ∧ Dp K H (.ref a) (.list ds) ∧ Dp K H y d ∧ SeqAt.shaped (.list ds) = true ∧ SeqAt.shaped d = true ∧ Q (.int ((ds.countP fun z => PyData.eqv z d : Nat) : Int)) H
mutual
theorem plain_of_canLay0 : ∀ d : PyData, d.canLay0 = true → d.plain = true
  | .none, _ => rfl
  | .bool _, _ => rfl
  | .int _, _ => rfl
  | .str _, _ => rfl
  | .list xs, h => plainAll_of_canLay0 xs h
  | .tuple xs, h => plainAll_of_canLay0 xs h
  | .dict _, h => by simp [PyData.canLay0] at h
theorem plainAll_of_canLay0 : ∀ ds : List PyData, PyData.canLayAll0 ds = true → PyData.plainAll ds = true
  | [], _ => rfl
  | d :: ds, h => by
    have h' : d.canLay0 = true ∧ PyData.canLayAll0 ds = true := by simpa [PyData.canLayAll0] using h
    simp [PyData.plainAll, plain_of_canLay0 d h'.1, plainAll_of_canLay0 ds h'.2]
end
theorem mt_countD (hu : X.A.units + 65 < cLine) : MtR X "list.count" (rCntD X.K) := by
  intro pins s σ H x xs v us Q I rx rxs h
  obtain ⟨a, y, d, ds, rfl, rfl, hl, hy, sl, sd, q⟩ := h
  cases rx
  cases rxs with
  | cons ry rt =>
    rename_i uy ut
    cases rt
    obtain ⟨bs, r1⟩ := Dp.reads I d y uy hy ry
    cases hl with
    | @lst _ vs _ sq all =>
      obtain ⟨its, rv, pl, hz⟩ := I.list sq
      obtain ⟨as, ra⟩ := Dp.readsAll I ds vs its all rv
      have can : PyData.canLayAll0 ds = true := SeqAt.canLay_of_shaped sl
      exact SeqAt.count_list_data (vs := its.toArray) pl.isList ra r1 (plainAll_of_canLay0 ds can) (plain_of_canLay0 d (SeqAt.canLay_of_shaped sd)) (room_in_shaped sd hu) ⟨.int _, H, I.tok _, ⟨_, rfl⟩, q⟩
theorem ms_count : MrS X "list" (rCntD X.K) gCount := by
  intro G F δ σ H v vs x xs P Q eK I hx hv g k
  unfold gCount at g
  split at g
  · rename_i ys y
    obtain ⟨⟨g1, g2⟩, g⟩ := g
    obtain ⟨u, rfl, h1⟩ := vals1D hv
    have dl := vw_lst_dp hx (D.ok_iff g2).1
    have dy := Vw.dp h1 (D.ok_iff g1).1
    rw [eK] at dl dy
    obtain ⟨a, us, rfl, _⟩ := hx
    refine ⟨a, u, _, _, rfl, rfl, dl, dy, shaped_lst g2, (D.ok_iff g1).2, ?_⟩
    rw [D.pyL_map, List.countP_map]
    exact kont_flat I k g (.int _)
  · exact g.elim
/-- s.join(texts) -/
def gJoin : D → List D → (Bool × D → Prop) → Prop
  | .str a, [.lst xs], P => match strsD xs with
    | some ys => (ys.map (·.length)).sum + ys.length * a.length ≤ 16777216 ∧ P (false, .str (Txt.join a ys))
    | none => False
  | .str a, [.tup xs], P => match strsD xs with
    | some ys => (ys.map (·.length)).sum + ys.length * a.length ≤ 16777216 ∧ P (false, .str (Txt.join a ys))
    | none => False
  | _, _, _ => False
def rJoin (K : KF) : V → List V → Hp → VK → Prop := fun x xs H Q => ∃ a p, ∃ ys : List Str, x = .str a ∧ xs = [.ref p] ∧ (SqL K H p (ys.map V.str) ∨ SqT K H p (ys.map V.str)) ∧ (ys.map (·.length)).sum + ys.length * a.length ≤ 16777216 ∧ Q (.str (Txt.join a ys)) H
theorem ms_join : MrS X "str" (rJoin X.K) gJoin := by
  intro G F δ σ H v vs x xs P Q eK I hx hv g k
  unfold gJoin at g
  split at g
  · split at g
    · rename_i ys e
      obtain ⟨u, rfl, h1⟩ := vals1D hv
      cases hx
      obtain ⟨a, us, rfl, h2, h3⟩ := h1
      rw [strsD_map e] at h3
      rw [h3.strs_of] at h2
      exact ⟨_, a, ys, rfl, rfl, .inl (SqL.of h2), g.1, kont_flat I k g.2 (.str _)⟩
    · exact g.elim
  · rename_i xs
    split at g
    · rename_i ys e
      obtain ⟨u, rfl, h1⟩ := vals1D hv
      cases hx
      cases (show Rep G.K G.pa F H u (.tup xs) from h1) with
      | @tup a us ds h2 h3 =>
        rw [strsD_map e] at h3
        rw [h3.strs_of] at h2
        exact ⟨_, a, ys, rfl, rfl, .inr h2.sq, g.1, kont_flat I k g.2 (.str _)⟩
    · exact g.elim
  · exact g.elim

/-! ### {} -/
def fDk : FX (Bool × D) := fun _ δ Q => Q (true, .dk [] []) δ
def fDt : FX (Bool × D) := fun _ δ Q => Q (true, .dt [] []) δ
theorem do_dk {E : XK} {pos : Pos} : DO X E (.Dict [] [] pos) fDk := PE.imp pe_dnewK fun σ H Q ⟨G, F, δ, Qd, Ed, eK, I, hf, hx, k⟩ => fun p hp =>
  kont_new I (P := fun r => Qd r δ) (fun r F' H' z pp I' s' o' => k r δ F' H' z pp I' s' o') hf hp fun H' e o => ⟨[], o, rfl, .nil⟩
theorem do_dt {E : XK} {pos : Pos} : DO X E (.Dict [] [] pos) fDt := PE.imp pe_dnewT fun σ H Q ⟨G, F, δ, Qd, Ed, eK, I, hf, hx, k⟩ => fun p hp =>
  kont_new I (P := fun r => Qd r δ) (fun r F' H' z pp I' s' o' => k r δ F' H' z pp I' s' o') hf hp fun H' e o => ⟨[], o, rfl, .nil⟩
/-- [*xs, ..] -/
def aStar (f : FX D) (g : FX (List D)) : FX (List D) := fun Ed δ Q => f Ed δ fun d δ1 => match d with
  | .lst xs => g Ed δ1 fun ds δ2 => Q (xs ++ ds) δ2
  | .tup xs => g Ed δ1 fun ds δ2 => Q (xs ++ ds) δ2
  | _ => False
theorem da_star {E : XK} {e : Expr} {es : List Expr} {p : Pos} {f : FX D} {g : FX (List D)} (ha : DG X E e f) (hr : DA X E es g) (hs : starEach (.Starred e p :: es) X.env = (true, eval e X.env) :: starEach es X.env := by rfl) : DA X E (.Starred e p :: es) (aStar f g) :=
  PA.imp (StX.pa_star ha hr hs) fun σ H Q ⟨G, F, δ, Qd, Ed, eK, I, hf, hx, k⟩ => ⟨G, F, δ, _, Ed, eK, I, hf, hx, fun d δ1 F1 H1 v q1 I1 s1 r1 => by
    cases r1 with
    | @lst a vs xs a1 a2 => exact ⟨a, vs, rfl, .inr a1.sq, G, F1, δ1, _, Ed, eK, I1, q1, hx, fun ds δ2 F2 H2 us q2 I2 s2 r2 => k _ δ2 F2 H2 _ q2 I2 (s1.trans s2) ((a2.ext s2.ext).append r2)⟩
    | @tup a vs xs a1 a2 => exact ⟨a, vs, rfl, .inl a1.sq, G, F1, δ1, _, Ed, eK, I1, q1, hx, fun ds δ2 F2 H2 us q2 I2 s2 r2 => k _ δ2 F2 H2 _ q2 I2 (s1.trans s2) ((a2.ext s2.ext).append r2)⟩
    | _ => exact q1.elim⟩
end
end DS
end
section
set_option maxRecDepth 100000
set_option maxHeartbeats 1000000
/-! DS11: what is walked. -/
namespace DS
open PySem PySem.Spec PyProof.Rows L2

/-! ### a list or a tuple -/
def iSq (K : KF) (tl : TE) : TI := fun σ H R => tl σ H fun x H1 => ∃ a, x = .ref a ∧ (((∃ xs, SqL K H1 a xs) ∧ R (Itl K a) H1) ∨ ((∃ xs, SqT K H1 a xs) ∧ R (Itt K a) H1))
section
variable {X : Cx} {E : XK} {tg l : Expr}
theorem pi_sq {tl : TE} (hl : PE X l tl) : PI X tg l (iSq X.K tl) := by
  constructor
  intro pins s σ H R I want
  refine thn (hl.run pins s σ H _ I want) ?_
  rintro v s1 ⟨x, H1, I1, rel, a, rfl, both⟩
  obtain rfl : v = .ref a := rel
  have own : ∀ b ∈ [s1.heap.objs.size], FpOk X pins H1 b := fun b hb => by
    obtain rfl := List.mem_singleton.mp hb
    exact I1.fpOk (Nat.le_refl _) (I1.hok.fresh (Nat.le_refl _))
  rcases both with ⟨⟨xs, sq⟩, q⟩ | ⟨⟨xs, sq⟩, q⟩
  · obtain ⟨its, _, pl, _⟩ := I1.list sq
    exact wpAny_pyIter_list pl.isList ⟨_, [s1.heap.objs.size], _, _, H1, rfl, I1.kept (t' := s1.toks) fun b o e => Heap.get?_push_of_some _ e, turn_list a _, ⟨_, Heap.get?_push_size _ rfl, rfl, rfl⟩, own, q⟩
  · obtain ⟨its, _, pl, _⟩ := I1.tuple sq
    exact wpAny_pyIter_tuple (items := its.toArray) pl ⟨_, [s1.heap.objs.size], _, _, H1, rfl, I1.kept (t' := s1.toks) fun b o e => Heap.get?_push_of_some _ e, turn_tuple a _, ⟨_, Heap.get?_push_size _ rfl, rfl, rfl⟩, own, q⟩
def seqD : D → Option (List D)
  | .lst xs => some xs
  | .tup xs => some xs
  | _ => none
def fSeq (f : FX D) : FX (List D) := fun Ed δ Q => f Ed δ fun d δ' => match d with
  | .lst xs => Q xs δ'
  | .tup xs => Q xs δ'
  | _ => False
theorem it_list {K : KF} {pa : Option Addr} {F : FS} {H : Hp} {a : Addr} {vs : List V} {ds : List D} (h1 : RL F H a vs) (h2 : RepAll K pa F H vs ds) : ItOk K pa (Itl K a) ds F H := by
  have stay : ∀ {F' : FS} {H' : Hp}, Ext F H F' H' → SqL K H' a vs := fun e => (RL.ext e h1).sq
  have one : ∀ {F' : FS} {H' : Hp} {xs : List V}, Ext F H F' H' → SqL K H' a xs → True := fun _ _ => trivial
  refine ⟨fun i F' H' e _ hi => ?_, fun i d F' H' v H2 e _ hd hy => ?_, fun F' H' e _ => ⟨vs, stay e, by rw [h2.len]; exact Nat.le_refl _⟩⟩
  · exact ⟨vs, vs[i]'(by rw [h2.len]; exact hi), stay e, List.getElem?_eq_getElem _⟩
  · obtain ⟨rfl, hv⟩ := hy
    obtain ⟨w, q1, q2⟩ := h2.get' hd
    have q3 := hv vs (stay e)
    rw [q1] at q3
    cases q3
    exact .inl ⟨rfl, q2.ext e⟩
theorem it_tup {K : KF} {pa : Option Addr} {F : FS} {H : Hp} {a : Addr} {vs : List V} {ds : List D} (h1 : RT F H a vs) (h2 : RepAll K pa F H vs ds) : ItOk K pa (Itt K a) ds F H := by
  have stay : ∀ {F' : FS} {H' : Hp}, Ext F H F' H' → SqT K H' a vs := fun e => (RT.ext e h1).sq
  refine ⟨fun i F' H' e _ hi => ?_, fun i d F' H' v H2 e _ hd hy => ?_, fun F' H' e _ => ⟨vs, stay e, by rw [h2.len]; exact Nat.le_refl _⟩⟩
  · exact ⟨vs, vs[i]'(by rw [h2.len]; exact hi), stay e, List.getElem?_eq_getElem _⟩
  · obtain ⟨rfl, hv⟩ := hy
    obtain ⟨w, q1, q2⟩ := h2.get' hd
    have q3 := hv vs (stay e)
    rw [q1] at q3
    cases q3
    exact .inl ⟨rfl, q2.ext e⟩
theorem di_seq {f : FX D} (h : DG X E l f) : DI X E tg l (fSeq f) := PI.imp (pi_sq h) fun σ H R ⟨G, F, δ, Qd, Ed, eK, I, hf, hx, k⟩ => ⟨G, F, δ, _, Ed, eK, I, hf, hx, fun d δ1 F1 H1 v q1 I1 s1 r1 => by
  rw [← eK]
  cases r1 with
  | lst a1 a2 => exact ⟨_, rfl, .inl ⟨⟨_, a1.sq⟩, k _ δ1 F1 H1 _ q1 I1 s1 (it_list a1 a2)⟩⟩
  | tup a1 a2 => exact ⟨_, rfl, .inr ⟨⟨_, a1.sq⟩, k _ δ1 F1 H1 _ q1 I1 s1 (it_tup a1 a2)⟩⟩
  | _ => exact q1.elim⟩

/-! ### ranges -/
def fR1 (f : FX (List D)) : FX (List D) := fun Ed δ Q => f Ed δ fun ds δ' => match ds with
  | [.int j] => (-(2 ^ 62) ≤ j ∧ j < 2 ^ 62) ∧ Q (rgD 0 j) δ'
  | _ => False
def fR2 (f : FX (List D)) : FX (List D) := fun Ed δ Q => f Ed δ fun ds δ' => match ds with
  | [.int i, .int j] => (-(2 ^ 62) ≤ i ∧ i < 2 ^ 62 ∧ -(2 ^ 62) ≤ j ∧ j < 2 ^ 62) ∧ Q (rgD i j) δ'
  | _ => False
theorem rgD_get {i j : Int} {m : Nat} {d : D} (h : (rgD i j)[m]? = some d) : d = .int (i + (m : Nat)) := by
  unfold rgD at h
  rw [List.getElem?_map] at h
  obtain ⟨x, h1, h2⟩ := Option.map_eq_some_iff.mp h
  have := (List.getElem?_eq_some_iff.mp h1).2
  simp at this
  rw [← h2, this]
theorem rgD_len (i j : Int) : (rgD i j).length = (j - i).toNat := by unfold rgD; simp
theorem it_rng {K : KF} {pa : Option Addr} {F : FS} {H : Hp} {i j : Int} : ItOk K pa (Itr i (j - i).toNat) (rgD i j) F H := by
  refine ⟨fun m F' H' e _ hi => by rw [rgD_len] at hi; exact hi, fun m d F' H' v H2 e _ hd hy => ?_, fun F' H' e _ => by rw [rgD_len]; exact Nat.le_refl _⟩
  obtain ⟨rfl, hv⟩ := hy
  rw [hv, rgD_get hd]
  exact .inl ⟨rfl, .int _⟩
theorem di_range1 {a : Expr} {fa : FX (List D)} {p pos : Pos} (hg : Gl X "range") (hm : X.mg "range" = none) (ha : DA X E [a] fa) (hs : starEach [a] X.env = [(false, eval a X.env)] := by rfl) : DI X E tg (.Call (.Name "range" p) [a] [] pos) (fR1 fa) :=
  PI.imp (pi_range1 hg hm ha hs) fun σ H R ⟨G, F, δ, Qd, Ed, eK, I, hf, hx, k⟩ => ⟨G, F, δ, _, Ed, eK, I, hf, hx, fun ds δ1 F1 H1 vs q1 I1 s1 r1 => by
    split at q1
    · obtain ⟨v, rfl, r⟩ := rep1 r1
      cases r
      rename_i j
      refine ⟨j, rfl, q1.1.1, q1.1.2, k _ δ1 F1 H1 _ q1.2 I1 s1 ?_⟩
      have := it_rng (K := G.K) (pa := G.pa) (F := F1) (H := H1) (i := 0) (j := j)
      rwa [Int.sub_zero] at this
    · exact q1.elim⟩
theorem rep2 {K : KF} {pa : Option Addr} {F : FS} {H : Hp} {vs : List V} {d e : D} (h : RepAll K pa F H vs [d, e]) : ∃ v u, vs = [v, u] ∧ Rep K pa F H v d ∧ Rep K pa F H u e := by
  cases h with
  | cons r t => obtain ⟨u, rfl, r2⟩ := rep1 t; exact ⟨_, u, rfl, r, r2⟩
theorem rep3 {K : KF} {pa : Option Addr} {F : FS} {H : Hp} {vs : List V} {d e f : D} (h : RepAll K pa F H vs [d, e, f]) : ∃ v u w, vs = [v, u, w] ∧ Rep K pa F H v d ∧ Rep K pa F H u e ∧ Rep K pa F H w f := by
  cases h with
  | cons r t => obtain ⟨u, w, rfl, r2, r3⟩ := rep2 t; exact ⟨_, u, w, rfl, r, r2, r3⟩
theorem di_range2 {a b : Expr} {fa : FX (List D)} {p pos : Pos} (hg : Gl X "range") (hm : X.mg "range" = none) (ha : DA X E [a, b] fa) (hs : starEach [a, b] X.env = [(false, eval a X.env), (false, eval b X.env)] := by rfl) (hs2 : starEach [b] X.env = [(false, eval b X.env)] := by rfl) :
    DI X E tg (.Call (.Name "range" p) [a, b] [] pos) (fR2 fa) :=
  PI.imp (pi_range2 hg hm ha hs hs2) fun σ H R ⟨G, F, δ, Qd, Ed, eK, I, hf, hx, k⟩ => ⟨G, F, δ, _, Ed, eK, I, hf, hx, fun ds δ1 F1 H1 vs q1 I1 s1 r1 => by
    split at q1
    · obtain ⟨v, u, rfl, r, r'⟩ := rep2 r1
      cases r
      cases r'
      exact ⟨_, _, rfl, q1.1, k _ δ1 F1 H1 _ q1.2 I1 s1 it_rng⟩
    · exact q1.elim⟩
/-- range(i, j, c) -/
def rgC (i c : Int) (n : Nat) : List D := (List.range n).map fun m => .int (i + (m : Nat) * c)
def fR3 (f : FX (List D)) : FX (List D) := fun Ed δ Q => f Ed δ fun ds δ' => match ds with
  | [.int i, .int j, .int c] => ∃ n, RgC i j c n ∧ Q (rgC i c n) δ'
  | _ => False
theorem di_range3 {a b c : Expr} {fa : FX (List D)} {p pos : Pos} (hg : Gl X "range") (hm : X.mg "range" = none) (ha : DA X E [a, b, c] fa)
    (hs : starEach [a, b, c] X.env = (false, eval a X.env) :: starEach [b, c] X.env := by rfl) (hpl : (backTo pos (starEach [b, c] X.env)).any (·.1) = false := by rfl) : DI X E tg (.Call (.Name "range" p) [a, b, c] [] pos) (fR3 fa) :=
  PI.imp (pi_range3 hg hm ha hs hpl) fun σ H R ⟨G, F, δ, Qd, Ed, eK, I, hf, hx, k⟩ => ⟨G, F, δ, _, Ed, eK, I, hf, hx, fun ds δ1 F1 H1 vs q1 I1 s1 r1 => by
    split at q1
    · obtain ⟨v, u, w, rfl, r, r', r''⟩ := rep3 r1
      cases r
      cases r'
      cases r''
      obtain ⟨n, c1, q⟩ := q1
      refine ⟨_, _, _, n, rfl, c1, k _ δ1 F1 H1 _ q I1 s1 ⟨fun m F' H' e _ hi => ?_, fun m d F' H' v H2 e _ hd hy => ?_, fun F' H' e _ => ?_⟩⟩
      · have hi' : m < n := by unfold rgC at hi; simpa using hi
        exact hi'
      · obtain ⟨rfl, hv⟩ := hy
        unfold rgC at hd
        rw [List.getElem?_map] at hd
        obtain ⟨x, h1, h2⟩ := Option.map_eq_some_iff.mp hd
        have h3 := (List.getElem?_eq_some_iff.mp h1).2
        simp at h3
        subst h3
        rw [hv, ← h2]
        exact .inl ⟨rfl, .int _⟩
      · show n ≤ _; unfold rgC; simp
    · exact q1.elim⟩

/-! ### enumerate(a list), zip(two lists or two tuples) -/
def enumD (xs : List D) : List D := (List.range xs.length).zipWith (fun i x => .par [.int (i : Nat), x]) xs
theorem enumD_get {xs : List D} {i : Nat} {d : D} (h : (enumD xs)[i]? = some d) : ∃ x, xs[i]? = some x ∧ d = .par [.int (i : Nat), x] := by
  unfold enumD at h
  rw [List.getElem?_zipWith] at h
  by_cases hi : i < xs.length
  · rw [List.getElem?_eq_getElem (by simpa using hi), List.getElem?_eq_getElem hi] at h
    simp at h
    exact ⟨_, List.getElem?_eq_getElem hi, h.symm⟩
  · rw [List.getElem?_eq_none (by simpa using hi)] at h
    cases h
theorem enumD_len (xs : List D) : (enumD xs).length = xs.length := by unfold enumD; simp
def fEnum (f : FX (List D)) : FX (List D) := fun Ed δ Q => f Ed δ fun ds δ' => match ds with
  | [.lst xs] => Q (enumD xs) δ'
  | [.tup xs] => Q (enumD xs) δ'
  | _ => False
theorem di_enum {e : Expr} {fa : FX (List D)} {p pos tpos : Pos} {elts : List Expr} {kk : Nat} (hg : Gl X "enumerate") (hm : X.mg "enumerate" = none) (ha : DA X E [e] fa) (hs : starEach [e] X.env = [(false, eval e X.env)] := by rfl) :
    DI X E (.Tuple elts kk tpos) (.Call (.Name "enumerate" p) [e] [] pos) (fEnum fa) :=
  PI.imp (DSE.pi_enumA hg hm ha hs) fun σ H R ⟨G, F, δ, Qd, Ed, eK, I, hf, hx, k⟩ => ⟨G, F, δ, _, Ed, eK, I, hf, hx, fun ds δ1 F1 H1 vs q1 I1 s1 r1 => by
    split at q1
    · obtain ⟨v, rfl, r⟩ := rep1 r1
      rw [← eK]
      cases r with
      | @lst a us xs a1 a2 =>
        have stay : ∀ {F' : FS} {H' : Hp}, Ext F1 H1 F' H' → SqL G.K H' a us := fun e => (RL.ext e a1).sq
        refine ⟨a, us, rfl, .inl ⟨a1.sq, k _ δ1 F1 H1 _ q1 I1 s1 ⟨fun i F' H' e _ hi => ?_, fun i d F' H' v H2 e _ hd hy => ?_, fun F' H' e _ => ⟨us, stay e, by rw [enumD_len, a2.len]; exact Nat.le_refl _⟩⟩⟩⟩
        · rw [enumD_len] at hi
          exact ⟨us, us[i]'(by rw [a2.len]; exact hi), stay e, List.getElem?_eq_getElem _⟩
        · obtain ⟨T, x, rfl, hT, rfl, hv⟩ := hy
          obtain ⟨y, q1, rfl⟩ := enumD_get hd
          obtain ⟨w, q2, q3⟩ := a2.get' q1
          have q4 := hv us (stay e)
          rw [q2] at q4
          cases q4
          exact .inr ⟨T, _, hT, rfl, fun F3 H3 e3 f3 o3 => .par f3 o3 (.cons (.int _) (.cons (q3.ext (e.trans e3)) .nil))⟩
    · obtain ⟨v, rfl, r⟩ := rep1 r1
      rw [← eK]
      cases r with
      | @tup a us xs a1 a2 =>
        have stay : ∀ {F' : FS} {H' : Hp}, Ext F1 H1 F' H' → SqT G.K H' a us := fun e => (RT.ext e a1).sq
        refine ⟨a, us, rfl, .inr ⟨a1.sq, k _ δ1 F1 H1 _ q1 I1 s1 ⟨fun i F' H' e _ hi => ?_, fun i d F' H' v H2 e _ hd hy => ?_, fun F' H' e _ => ⟨us, stay e, by rw [enumD_len, a2.len]⟩⟩⟩⟩
        · rw [enumD_len] at hi
          exact ⟨us, us[i]'(by rw [a2.len]; exact hi), stay e, List.getElem?_eq_getElem _⟩
        · obtain ⟨T, x, rfl, hT, rfl, hv⟩ := hy
          obtain ⟨y, q1, rfl⟩ := enumD_get hd
          obtain ⟨w, q2, q3⟩ := a2.get' q1
          have q4 := hv us (stay e)
          rw [q2] at q4
          cases q4
          exact .inr ⟨T, _, hT, rfl, fun F3 H3 e3 f3 o3 => .par f3 o3 (.cons (.int _) (.cons (q3.ext (e.trans e3)) .nil))⟩
    · exact q1.elim⟩
def zipD (xs ys : List D) : List D := xs.zipWith (fun x y => .par [x, y]) ys
theorem zipD_get {xs ys : List D} {i : Nat} {d : D} (h : (zipD xs ys)[i]? = some d) : ∃ x y, xs[i]? = some x ∧ ys[i]? = some y ∧ d = .par [x, y] := by
  unfold zipD at h
  rw [List.getElem?_zipWith] at h
  cases e1 : xs[i]? with
  | none => rw [e1] at h; simp at h
  | some x =>
    cases e2 : ys[i]? with
    | none => rw [e1, e2] at h; simp at h
    | some y => rw [e1, e2] at h; simp at h; exact ⟨x, y, rfl, rfl, h.symm⟩
theorem zipD_len (xs ys : List D) : (zipD xs ys).length = min xs.length ys.length := by unfold zipD; simp
def fZip (f : FX (List D)) : FX (List D) := fun Ed δ Q => f Ed δ fun ds δ' => match ds with
  | [.lst xs, .lst ys] => Q (zipD xs ys) δ'
  | [.tup xs, .tup ys] => Q (zipD xs ys) δ'
  | _ => False
theorem di_zip {e e2 : Expr} {fa : FX (List D)} {p pos tpos : Pos} {elts : List Expr} {kk : Nat} (hg : Gl X "zip") (hm : X.mg "zip" = none) (ha : DA X E [e, e2] fa)
    (hs : starEach [e, e2] X.env = (false, eval e X.env) :: starEach [e2] X.env := by rfl) (hpl : (backTo pos (starEach [e2] X.env)).any (·.1) = false := by rfl) : DI X E (.Tuple elts kk tpos) (.Call (.Name "zip" p) [e, e2] [] pos) (fZip fa) :=
  PI.imp (RZ.pi_zipA hg hm ha hs hpl) fun σ H R ⟨G, F, δ, Qd, Ed, eK, I, hf, hx, k⟩ => ⟨G, F, δ, _, Ed, eK, I, hf, hx, fun ds δ1 F1 H1 vs q1 I1 s1 r1 => by
    split at q1
    · obtain ⟨v, u, rfl, r, r'⟩ := rep2 r1
      rw [← eK]
      cases r with
      | @lst a us xs a1 a2 =>
        cases r' with
        | @lst b ws ys b1 b2 =>
          have s1' : ∀ {F' : FS} {H' : Hp}, Ext F1 H1 F' H' → SqL G.K H' a us := fun e => (RL.ext e a1).sq
          have s2' : ∀ {F' : FS} {H' : Hp}, Ext F1 H1 F' H' → SqL G.K H' b ws := fun e => (RL.ext e b1).sq
          refine ⟨a, b, us, ws, rfl, .inl ⟨a1.sq, b1.sq, k _ δ1 F1 H1 _ q1 I1 s1 ⟨fun i F' H' e _ hi => ?_, fun i d F' H' v H2 e _ hd hy => ?_, fun F' H' e _ => ⟨us, ws, s1' e, s2' e, by rw [zipD_len, a2.len, b2.len]; omega⟩⟩⟩⟩
          · rw [zipD_len] at hi
            exact ⟨us, ws, us[i]'(by rw [a2.len]; omega), ws[i]'(by rw [b2.len]; omega), s1' e, s2' e, List.getElem?_eq_getElem _, List.getElem?_eq_getElem _⟩
          · obtain ⟨T, x, y, rfl, hT, rfl, hx, hy⟩ := hy
            obtain ⟨x', y', q1, q2, rfl⟩ := zipD_get hd
            obtain ⟨w1, q3, q4⟩ := a2.get' q1
            obtain ⟨w2, q5, q6⟩ := b2.get' q2
            have q7 := hx us (s1' e)
            have q8 := hy ws (s2' e)
            rw [q3] at q7
            rw [q5] at q8
            cases q7
            cases q8
            exact .inr ⟨T, _, hT, rfl, fun F3 H3 e3 f3 o3 => .par f3 o3 (.cons (q4.ext (e.trans e3)) (.cons (q6.ext (e.trans e3)) .nil))⟩
    · obtain ⟨v, u, rfl, r, r'⟩ := rep2 r1
      rw [← eK]
      cases r with
      | @tup a us xs a1 a2 =>
        cases r' with
        | @tup b ws ys b1 b2 =>
          have s1' : ∀ {F' : FS} {H' : Hp}, Ext F1 H1 F' H' → SqT G.K H' a us := fun e => (RT.ext e a1).sq
          have s2' : ∀ {F' : FS} {H' : Hp}, Ext F1 H1 F' H' → SqT G.K H' b ws := fun e => (RT.ext e b1).sq
          refine ⟨a, b, us, ws, rfl, .inr ⟨a1.sq, b1.sq, k _ δ1 F1 H1 _ q1 I1 s1 ⟨fun i F' H' e _ hi => ?_, fun i d F' H' v H2 e _ hd hy => ?_, fun F' H' e _ => ⟨us, ws, s1' e, s2' e, by rw [zipD_len, a2.len, b2.len]; omega⟩⟩⟩⟩
          · rw [zipD_len] at hi
            exact ⟨us, ws, us[i]'(by rw [a2.len]; omega), ws[i]'(by rw [b2.len]; omega), s1' e, s2' e, List.getElem?_eq_getElem _, List.getElem?_eq_getElem _⟩
          · obtain ⟨T, x, y, rfl, hT, rfl, hx, hy⟩ := hy
            obtain ⟨x', y', q1, q2, rfl⟩ := zipD_get hd
            obtain ⟨w1, q3, q4⟩ := a2.get' q1
            obtain ⟨w2, q5, q6⟩ := b2.get' q2
            have q7 := hx us (s1' e)
            have q8 := hy ws (s2' e)
            rw [q3] at q7
            rw [q5] at q8
            cases q7
            cases q8
            exact .inr ⟨T, _, hT, rfl, fun F3 H3 e3 f3 o3 => .par f3 o3 (.cons (q4.ext (e.trans e3)) (.cons (q6.ext (e.trans e3)) .nil))⟩
    · exact q1.elim⟩
end
end DS
end
section
set_option maxRecDepth 100000
set_option maxHeartbeats 1000000
/-! DS12: [elt for a in x for b in y]. -/
namespace DS
open PySem PySem.Spec PyProof.Rows L2

/-! ### a step that may write one temporary more -/
structure StpP (p : Addr) (G : Gd) (σ : L2.St) (δ : Dst) (F : FS) (H : Hp) (δ' : Dst) (F' : FS) (H' : Hp) : Prop where
  ext : Ext F H F' H'
  own : ∀ (i : Nat) (e : D), δ'.sl[i]? = some (some (true, e)) → ∃ e' : D, δ.sl[i]? = some (some (true, e'))
  kp : ∀ (a : Addr) (o : HO), a ≠ p → H a = some o → G.off a → (∀ (i : Nat) (e : D), δ.sl[i]? = some (some (true, e)) → σ[i]? = some (some (V.ref a)) → False) → H' a = some o
  fz : ∀ a, F' a → F a ∨ H a = none ∨ ∃ (i : Nat) (e : D), δ.sl[i]? = some (some (true, e)) ∧ σ[i]? = some (some (V.ref a))
  trk : ∀ a, H a ≠ none → H' a ≠ none
section
variable {p : Addr} {G : Gd} {σ σ' : L2.St} {δ δ' δ1 δ2 : Dst} {F F' F1 F2 : FS} {H H' H1 H2 : Hp}
theorem Stp.toP (s : Stp G σ δ F H δ' F' H') : StpP p G σ δ F H δ' F' H' := ⟨s.ext, s.own, fun a o _ => s.kp a o, s.fz, s.trk⟩
theorem StpP.trans (a : StpP p G σ δ F H δ1 F1 H1) (b : StpP p G σ δ1 F1 H1 δ2 F2 H2) : StpP p G σ δ F H δ2 F2 H2 where
  ext := a.ext.trans b.ext
  own := fun i e h => let ⟨e1, h1⟩ := b.own i e h; a.own i e1 h1
  kp := fun x o ne h hp hn => b.kp x o ne (a.kp x o ne h hp hn) hp fun i e q s => let ⟨e1, h1⟩ := a.own i e q; hn i e1 h1 s
  fz := fun x h => by
    rcases b.fz x h with h | h | ⟨i, e, q, s⟩
    · exact a.fz x h
    · exact .inr (.inl (Classical.byContradiction fun n => a.trk x n h))
    · obtain ⟨e1, h1⟩ := a.own i e q
      exact .inr (.inr ⟨i, e1, h1, s⟩)
  trk := fun x h => b.trk x (a.trk x h)
theorem StpP.full (s : StpP p G σ δ F H δ' F' H') (h : H p = none) : Stp G σ δ F H δ' F' H' := ⟨s.ext, s.own, fun a o q => s.kp a o (fun z => by subst z; rw [h] at q; cases q) q, s.fz, s.trk⟩
theorem StpP.weak (s : StpP p G σ' δ2 F H δ' F' H') (h : ∀ (i : Nat) (e : D), δ2.sl[i]? = some (some (true, e)) → (∃ e' : D, δ.sl[i]? = some (some (true, e'))) ∧ σ'[i]? = σ[i]?) : StpP p G σ δ F H δ' F' H' :=
  ⟨s.ext, fun i e q => let ⟨e1, q1⟩ := s.own i e q; (h i e1 q1).1, fun a o ne q np n => s.kp a o ne q np fun i e q1 z => by
    obtain ⟨⟨e', q2⟩, q3⟩ := h i e q1
    exact n i e' q2 (by rw [← q3]; exact z), fun a f => by
    rcases s.fz a f with f | f | ⟨i, e, q1, z⟩
    · exact .inl f
    · exact .inr (.inl f)
    · obtain ⟨⟨e', q2⟩, q3⟩ := h i e q1
      exact .inr (.inr ⟨i, e', q2, by rw [← q3]; exact z⟩), s.trk⟩
theorem StpP.to (s : StpP p G σ δ F H δ' F' H') (h : ∀ (i : Nat) (e : D), δ2.sl[i]? = some (some (true, e)) → δ'.sl[i]? = some (some (true, e))) : StpP p G σ δ F H δ2 F' H' :=
  ⟨s.ext, fun i e q => s.own i e (h i e q), s.kp, s.fz, s.trk⟩
end
/-! ### a comprehension's loop over any body -/
abbrev Bd := List D → Dst → (List D → Dst → Prop) → Prop
def lcG (tg : FTg) (tt : FX Bool) (bd : Bd) (vs : List Nat) : List D → List D → Dst → (List D → Dst → Prop) → Prop
  | [], acc, δ, Q => Q acc δ
  | x :: r, acc, δ, Q => tg x (wipeD δ vs) fun δ1 => tt NoE δ1 fun b δ2 => match b with
    | true => bd acc δ2 fun acc' δ3 => lcG tg tt bd vs r acc' δ3 Q
    | false => lcG tg tt bd vs r acc δ2 Q
/-- the body over data stands for the body over the heap -/
def BdOk (p : Addr) (G : Gd) (vs : List Nat) (bd : Bd) (BD : L2.St → Hp → (Hp → Prop) → Prop) : Prop :=
  ∀ (F : FS) (δ : Dst) (σ : L2.St) (H : Hp) (acc : List D) (Qd : List D → Dst → Prop) (Nx : Hp → Prop), Hold G F δ σ H → Res G F H σ δ (.ref p) (true, .lst acc) → bd acc δ Qd →
    (∀ acc' δ' F' H', Qd acc' δ' → Hold G F' (wipeD δ' vs) (wipe σ vs) H' → StpP p G σ δ F H (wipeD δ' vs) F' H' → Res G F' H' (wipe σ vs) (wipeD δ' vs) (.ref p) (true, .lst acc') → Nx H') → BD σ H Nx
theorem loopG {K : KF} {p : Addr} {G : Gd} {J : It} {items : List D} {tg : FTg} {tt : FX Bool} {bd : Bd} {BD : L2.St → Hp → (Hp → Prop) → Prop} {vs ws : List Nat} {F : FS} {δ : Dst} {σ : L2.St} {H : Hp} {acc : List D} {Qd : List D → Dst → Prop} {Fin : Hp → Prop} (eK : G.K = K) (hws : ∀ i ∈ ws, i ∈ vs)
    (hb : BdOk p G vs bd BD) (I : Hold G F δ σ H) (t : Res G F H σ δ (.ref p) (true, .lst acc)) (it : ItOk G.K G.pa J items F H) (q : lcG tg tt bd vs items acc δ Qd)
    (fin : ∀ acc' δ' F' H', Qd acc' δ' → Hold G F' (wipeD δ' vs) (wipe σ vs) H' → StpP p G σ δ F H (wipeD δ' vs) F' H' → Res G F' H' (wipe σ vs) (wipeD δ' vs) (.ref p) (true, .lst acc') → Fin H') :
    ∃ W : Nat → Nat → Hp → Prop, (∃ m, W 0 m H) ∧ ∀ i m H, W i m H → (J.stop i H ∧ Fin H) ∨ (J.go i H ∧ ∃ Nx : Hp → Prop, (∀ H', Nx H' → ∃ m', m' < m ∧ W (i + 1) m' H') ∧
      ∀ x H', J.yld i H x H' → rdTg K ws tg x (wipe σ vs) H' fun σ2 H2 => wipe σ2 vs = wipe σ vs ∧ rdA K E0 okT tt σ2 H2 fun b H3 => if b = true then BD σ2 H3 Nx else Nx H3) := by
  let P : Nat → Hp → Prop := fun i H' => ∃ (F' : FS) (δ' : Dst) (acc : List D), Hold G F' (wipeD δ' vs) (wipe σ vs) H' ∧ StpP p G σ δ F H (wipeD δ' vs) F' H' ∧ Res G F' H' (wipe σ vs) (wipeD δ' vs) (.ref p) (true, .lst acc) ∧ lcG tg tt bd vs (items.drop i) acc δ' Qd
  refine ⟨fun i m H' => m = items.length - i ∧ i ≤ items.length ∧ P i H', ⟨items.length, by simp, Nat.zero_le _, F, δ, acc, I.wipe vs, (Stp.refl.to fun i e q => (wipeD_some q).2).toP, t.slots fun j e q => ?_, by simpa using q⟩, ?_⟩
  · obtain ⟨h1, h2⟩ := wipeD_some q
    exact ⟨⟨e, h2⟩, wipe_out h1⟩
  · rintro i m H2 ⟨rfl, hil, F2, δ2, acc2, I2, s2, r2, q2⟩
    by_cases hlt : i < items.length
    · obtain ⟨d, hd⟩ : ∃ d, items[i]? = some d := ⟨items[i], List.getElem?_eq_getElem hlt⟩
      have hdr : items.drop i = d :: items.drop (i + 1) := by
        rw [List.drop_eq_getElem_cons hlt]
        rw [List.getElem?_eq_getElem hlt] at hd
        rw [Option.some.inj hd]
      rw [hdr] at q2
      have q2' : tg d (wipeD δ2 vs) fun δ1' => tt NoE δ1' fun b δ2' => match b with
        | true => bd acc2 δ2' fun acc' δ3 => lcG tg tt bd vs (items.drop (i + 1)) acc' δ3 Qd
        | false => lcG tg tt bd vs (items.drop (i + 1)) acc2 δ2' Qd := q2
      refine .inr ⟨it.go i F2 H2 s2.ext I2.bas.trk hlt, P (i + 1), fun H' w => ⟨items.length - (i + 1), by omega, rfl, hlt, w⟩, fun x H3 y => ?_⟩
      obtain ⟨F3, I3, s3, r3⟩ := item_frz I2 (it.yld i d F2 H2 x H3 s2.ext I2.bas.trk hd y)
      have t3 := Res.step s3 r2
      refine ⟨G, F3, wipeD δ2 vs, d, _, eK, I3, r3, q2', fun δ4 F4 σ4 H4 q4 I4 e4 f4 g4 ts => ?_⟩
      have hw : wipe σ4 vs = wipe σ vs := by
        have hw1 : wipe σ4 vs = wipe (wipe σ vs) vs := wipe_eq ts.len fun j hj => ts.off j fun z => hj (hws j z)
        rw [hw1]
        exact wipe_eq (wipe_length σ vs) fun j hj => wipe_out hj
      have sub4 : ∀ (j : Nat) (e : D), δ4.sl[j]? = some (some (true, e)) → (∃ e' : D, (wipeD δ2 vs).sl[j]? = some (some (true, e'))) ∧ σ4[j]? = (wipe σ vs)[j]? := fun j e h => by
        obtain ⟨h1, h2⟩ := ts.own j e h
        exact ⟨⟨e, h2⟩, ts.off j h1⟩
      have t4 : Res G F4 H4 σ4 δ4 (.ref p) (true, .lst acc2) := by
        refine Res.slots ?_ sub4
        obtain ⟨a, ea, o, n⟩ := t3
        exact ⟨a, ea, o.ext e4 (g4 a) (fun f => o.nf (f4 a f)), n⟩
      refine ⟨hw, ?_⟩
      have base4 : ∀ {δ' F' H'}, StpP p G σ4 δ4 F4 H4 δ' F' H' → StpP p G σ δ F H (wipeD δ' vs) F' H' := fun {δ' F' H'} s => by
        have a1 : StpP p G (wipe σ vs) (wipeD δ2 vs) F2 H2 δ' F' H' := by
          have b2 : StpP p G (wipe σ vs) (wipeD δ2 vs) F4 H4 δ' F' H' := s.weak sub4
          have b3 : Stp G (wipe σ vs) (wipeD δ2 vs) F3 H3 (wipeD δ2 vs) F4 H4 := ⟨e4, fun i e q => ⟨e, q⟩, fun b u q _ _ => by rw [g4]; exact q, fun b f => .inl (f4 b f), fun b h => by rw [g4]; exact h⟩
          exact (s3.trans b3).toP.trans b2
        have a2 : StpP p G σ (wipeD δ2 vs) F2 H2 δ' F' H' := a1.weak fun i e q => by
          obtain ⟨h1, h2⟩ := wipeD_some q
          exact ⟨⟨e, q⟩, wipe_out h1⟩
        exact (s2.trans a2).to fun i e q => (wipeD_some q).2
      refine ⟨G, F4, δ4, _, NoE, eK, I4, q4, XOk.none, fun bb δ5 F5 H5 v q5 I5 s5 r5 => ?_⟩
      have r5' : v = bb := r5
      subst r5'
      have t5 := Res.step s5 t4
      cases v with
      | false =>
        refine ⟨F5, δ5, acc2, ?_, base4 s5.toP, t5.slots fun j e q => ?_, q5⟩
        · rw [← hw]; exact I5.wipe vs
        · obtain ⟨h1, h2⟩ := wipeD_some q
          exact ⟨⟨e, h2⟩, by rw [← hw, wipe_out h1]⟩
      | true =>
        show (if true = true then _ else _)
        rw [if_pos rfl]
        refine hb F5 δ5 σ4 H5 acc2 _ _ I5 t5 q5 fun acc' δ6 F6 H6 q6 I6 s6 t6 => ?_
        refine ⟨F6, δ6, acc', by rw [← hw]; exact I6, ?_, by rw [← hw]; exact t6, q6⟩
        exact (base4 (s5.toP.trans s6)).to fun i e q => by
          obtain ⟨h1, h2⟩ := wipeD_some q
          rw [wipeD_out h1]
          exact q
    · have e : i = items.length := by omega
      subst e
      rw [List.drop_length] at q2
      exact .inl ⟨it.stop F2 H2 s2.ext I2.bas.trk, fin acc2 δ2 F2 H2 q2 I2 s2 r2⟩
/-- the element is added -/
def bdOne (te : FX D) : Bd := fun acc δ K => te NoE δ fun y δ3 => acc.length < sizeLine ∧ K (acc ++ [y]) δ3
theorem bdOne_ok {K : KF} {p : Addr} {G : Gd} {vs : List Nat} {te : FX D} (eK : G.K = K) : BdOk p G vs (bdOne te) fun σ H Nx => rdA K E0 okG te σ H fun y H7 => ∃ acc, H7 p = some (.lst acc) ∧ acc.length < sizeLine ∧ Nx (upd H7 p (.lst (acc ++ [y]))) := by
  intro F δ σ H acc Qd Nx I t q k
  refine ⟨G, F, δ, _, NoE, eK, I, q, XOk.none, fun yd δ6 F6 H6 y6 q6 I6 s6 r6 => ?_⟩
  have t6 := Res.step s6 t
  obtain ⟨vs6, g1, g2, I7, e7, t7, o7⟩ := Res.grow I6 t6 r6
  refine ⟨vs6, g1, by rw [g2]; exact q6.1, k _ δ6 F6 _ q6.2 (I7.wipe vs) ?_ (t7.slots fun j e q => ?_)⟩
  · refine StpP.to (δ' := δ6) ⟨s6.ext.trans e7, s6.own, fun a o ne h np n => by rw [o7 a ne]; exact s6.kp a o h np n, s6.fz, fun a h => ?_⟩ fun i e q => (wipeD_some q).2
    by_cases z : a = p
    · rw [z, upd_same]; simp
    · rw [o7 a z]; exact s6.trk a h
  · obtain ⟨h1, h2⟩ := wipeD_some q
    exact ⟨⟨e, h2⟩, wipe_out h1⟩
/-- the inner loop -/
def bdTwo (fi1 : FX (List D)) (tg1 : FTg) (tt1 : FX Bool) (te : FX D) (vs1 : List Nat) : Bd := fun acc δ K => fi1 NoE δ fun items1 δ3 => lcG tg1 tt1 (bdOne te) vs1 items1 acc δ3 fun acc' δ4 => K acc' (wipeD δ4 vs1)
theorem bdTwo_ok {K : KF} {p : Addr} {G : Gd} {vs vs1 : List Nat} {fi1 : FX (List D)} {tg1 : FTg} {tt1 : FX Bool} {te : FX D} (eK : G.K = K) (hv : ∀ i ∈ vs1, i ∈ vs) : BdOk p G vs (bdTwo fi1 tg1 tt1 te vs1) fun σ2 H3 Nx =>
    rdI K E0 fi1 σ2 H3 fun J1 H4 => ∃ W1 : Nat → Nat → Hp → Prop, (∃ m, W1 0 m H4) ∧ ∀ j k H, W1 j k H →
      (J1.stop j H ∧ Nx H) ∨ (J1.go j H ∧ ∃ Nx1 : Hp → Prop, (∀ H', Nx1 H' → ∃ k', k' < k ∧ W1 (j + 1) k' H') ∧ ∀ x H', J1.yld j H x H' → rdTg K vs1 tg1 x (wipe σ2 vs1) H' fun σ3 H5 => wipe σ3 vs1 = wipe σ2 vs1 ∧ rdA K E0 okT tt1 σ3 H5 fun b H6 =>
        if b = true then rdA K E0 okG te σ3 H6 fun y H7 => ∃ acc, H7 p = some (.lst acc) ∧ acc.length < sizeLine ∧ Nx1 (upd H7 p (.lst (acc ++ [y]))) else Nx1 H6) := by
  intro F δ σ H acc Qd Nx I t q k
  refine ⟨G, F, δ, _, NoE, eK, I, q, XOk.none, fun items δ1 F1 H1 J q1 I1 s1 it => ?_⟩
  have t1 := Res.step s1 t
  refine loopG eK (fun _ z => z) (bdOne_ok eK) I1 t1 it q1 fun acc' δ' F' H' qd I' s' t' => ?_
  have ew : wipe (wipe σ vs1) vs = wipe σ vs := wipe_eq (wipe_length σ vs1) fun j hj => wipe_out fun z => hj (hv j z)
  have I2 := I'.wipe vs
  rw [ew] at I2
  refine k acc' _ F' H' qd I2 ((s1.toP.trans s').to fun i e q => (wipeD_some q).2) (t'.slots fun j e q => ?_)
  obtain ⟨h1, h2⟩ := wipeD_some q
  exact ⟨⟨e, h2⟩, by rw [← ew, wipe_out h1]⟩
def fLc2 (fi : FX (List D)) (tg : FTg) (tt : FX Bool) (fi1 : FX (List D)) (tg1 : FTg) (tt1 : FX Bool) (te : FX D) (vs vs1 : List Nat) : FX (Bool × D) := fun Ed δ Q => fi Ed δ fun items δ1 =>
  lcG tg tt (bdTwo fi1 tg1 tt1 te vs1) vs items [] δ1 fun ys δ2 => Q (true, .lst ys) (restore δ1 (wipeD δ2 vs) vs)
section
variable {X : Cx} {E : XK}
theorem rd_lc2 {fi fi1 : FX (List D)} {tg tg1 : FTg} {tt tt1 : FX Bool} {te : FX D} {vs vs1 ws : List Nat} (hws : ∀ i ∈ ws, i ∈ vs) (hv : ∀ i ∈ vs1, i ∈ vs) {σ : L2.St} {H : Hp} {Q : VK} (h : rdA X.K E okO (fLc2 fi tg tt fi1 tg1 tt1 te vs vs1) σ H Q) :
    tLc2 (rdI X.K E fi) (rdTg X.K ws tg) (rdA X.K E0 okT tt) (rdI X.K E0 fi1) (rdTg X.K vs1 tg1) (rdA X.K E0 okT tt1) (rdA X.K E0 okG te) vs vs1 σ H Q := by
  obtain ⟨G, F, δ, Qd, Ed, eK, I, hf, hx, k⟩ := h
  refine ⟨G, F, δ, _, Ed, eK, I, hf, hx, fun items δ1 F1 H1 J q1 I1 s1 it => fun p hp => ?_⟩
  obtain ⟨p0, np, nf⟩ := I1.bas.free hp
  have t0 : Res G F1 (upd H1 p (.lst [])) σ δ1 (.ref p) (true, .lst []) := by
    refine ⟨p, rfl, ⟨nf, p0, np, [], upd_same, .nil⟩, fun i e q z => ?_⟩
    obtain ⟨b, h1, h2⟩ := I1.own i e q
    rw [z] at h1
    cases h1
    exact h2.at_.trk hp
  refine loopG (Fin := fun H => Q (.ref p) H) eK hws (bdTwo_ok (p := p) eK hv) (I1.alloc hp) t0 (it.ext (I1.allocE hp)) q1 fun acc' δ' F' H' qd I' s' t' => ?_
  have sA : StpP p G σ δ1 F1 H1 (wipeD δ' vs) F' H' := (Stp.alloc I1 hp).toP.trans s'
  have own' : ∀ (j : Nat) (x : D), (restore δ1 (wipeD δ' vs) vs).sl[j]? = some (some (true, x)) → j ∉ vs ∧ (wipeD δ' vs).sl[j]? = some (some (true, x)) := fun j x h => by
    rcases restore_some h with h | ⟨d', h1, _⟩
    · exact h
    · cases h1
  have sB : Stp G σ δ1 F1 H1 (restore δ1 (wipeD δ' vs) vs) F' H' := (sA.full hp).to fun j x h => (own' j x h).2
  refine k (true, .lst acc') _ F' H' _ qd (Hold.restore I1 sA.ext I' fun j r h => (wipeD_some h).1) (s1.trans sB) ⟨t'.slots fun j x h => ?_, fun _ a ha => ?_⟩
  · obtain ⟨h1, h2⟩ := own' j x h
    exact ⟨⟨x, h2⟩, (wipe_out h1).symm⟩
  · cases ha
    exact Classical.byContradiction fun n => s1.trk p n hp
theorem do_lc2 {elt tg iter tg1 iter1 : Expr} {ifs ifs1 : List Expr} {scope : Scope} {own : List (Str × Nat)} {vs1 ws : List Nat} {pos : Pos} {fi fi1 : FX (List D)} {g g1 : FTg} {tt tt1 : FX Bool} {te : FX D} (hc : X.calm = true) (hN : X.N.Nodup) (hi : DI X E tg iter fi) (ok : BlkOk X.N X.env.scope scope own) (hws : ∀ i ∈ ws, i ∈ own.map (·.2)) (hv : ∀ i ∈ vs1, i ∈ own.map (·.2))
    (hg : ∀ (s : Shared) (H : Hp) (C : Addr) (cl : List (Str × Addr)) (fp : List Addr), DTg (X.blk s H scope (compEnvC scope cl C X.env) fp) tg ws g)
    (ht : ∀ (s : Shared) (H : Hp) (C : Addr) (cl : List (Str × Addr)) (fp : List Addr), DTs (X.blk s H scope (compEnvC scope cl C X.env) fp) E0 ifs tt)
    (hi1 : ∀ (s : Shared) (H : Hp) (C : Addr) (cl : List (Str × Addr)) (fp : List Addr), DI (X.blk s H scope (compEnvC scope cl C X.env) fp) E0 tg1 iter1 fi1)
    (hg1 : ∀ (s : Shared) (H : Hp) (C : Addr) (cl : List (Str × Addr)) (fp : List Addr), DTg (X.blk s H scope (compEnvC scope cl C X.env) fp) tg1 vs1 g1)
    (ht1 : ∀ (s : Shared) (H : Hp) (C : Addr) (cl : List (Str × Addr)) (fp : List Addr), DTs (X.blk s H scope (compEnvC scope cl C X.env) fp) E0 ifs1 tt1)
    (he : ∀ (s : Shared) (H : Hp) (C : Addr) (cl : List (Str × Addr)) (fp : List Addr), DG (X.blk s H scope (compEnvC scope cl C X.env) fp) E0 elt te)
    (hs : ∀ x, foldedSetIterable iter X.env x = pure x := by intro _; rfl) (hs1 : ∀ env x, foldedSetIterable iter1 env x = pure x := by intro _ _; rfl) :
    DO X E (.ListComp elt [⟨tg, iter, ifs, 0⟩, ⟨tg1, iter1, ifs1, 0⟩] scope pos) (fLc2 fi g tt fi1 g1 tt1 te (own.map (·.2)) vs1) :=
  PE.imp (pe_lc2 (g := rdTg X.K ws g) (tt := rdA X.K E0 okT tt) (wi1 := rdI X.K E0 fi1) (g1 := rdTg X.K vs1 g1) (tt1 := rdA X.K E0 okT tt1) (te := rdA X.K E0 okG te) hc hN hi ok hv hg ht hi1 hg1 ht1 he hs hs1) fun σ H Q h => rd_lc2 hws hv h
end
end DS
end
section
set_option maxRecDepth 100000
set_option maxHeartbeats 1000000
/-! DS13: own defs by name, keywords, defaults, constants, tables, texts put together. -/
namespace DS
open PySem PySem.Spec PyProof.Rows L2

/-! ### own defs -/
/-- the def x keeps the contract C at depth k -/
def OkF (P : Program) (w : World) (K : KF) (mg : Str → Option Value) (base : Heap) (x : Str) (params : Arguments) (body : List Stmt) (scope : Scope) (dvs : List V) (ps : List Str) (k : Nat) (C : DC) : Prop :=
  ∃ fd, FunD K x x params body scope dvs [] (He.ga K x) fd ∧ FnG P w K mg base (L2N.CX P w) k (He.ga K x) fd ps (spD K C)
theorem OkF.up {P : Program} {w : World} {K : KF} {mg : Str → Option Value} {base : Heap} {x : Str} {params : Arguments} {body : List Stmt} {scope : Scope} {dvs : List V} {ps : List Str} {j k : Nat} {C : DC} (h : OkF P w K mg base x params body scope dvs ps j C) (le : j ≤ k) : OkF P w K mg base x params body scope dvs ps k C := by
  obtain ⟨fd, F, G⟩ := h
  exact ⟨fd, F, G.up le⟩
/-- a def's own frame takes what it wishes -/
theorem passDef {X : Cx} {E : XK} (hs : X.stack = X.env :: X.outer := by rfl) (hf : X.env.frame = some X.env.locals := by rfl) (hex : X.ex = [] := by rfl) {E₁ : Value → Shared → Prop}
    (hx : X.xe = fun e s' => wpAny (model X.prog X.w) X.A (leaving X.env e) (fun _ s'' => L2N.CX X.prog X.w X.outer X.H_0 X.s_0 E e s'') E₁ s' := by rfl) : Passes (L2N.CX X.prog X.w) X E :=
  L2N.passes_call (L2N.takes_of (E := E) hs hf hex hx) fun _ _ _ _ h => h
theorem passE0 {X : Cx} : Passes (L2N.CX X.prog X.w) X E0 := fun _ _ _ _ _ _ _ h => by
  obtain ⟨_, _, _, _, _, _, _, _, _, _, _, _, z⟩ := h
  exact z.elim
/-- keywords without defaults -/
theorem FunD.kb {K : KF} {x qual : Str} {params : Arguments} {body : List Stmt} {scope : Scope} {kws : List (Str × V)} {f : Addr} {fd : FuncData} {ps : List Str} (F : FunD K x qual params body scope [] kws f fd) (n : Nat) (ks : List Str) (g : {α : Type} → List α → List α → List α)
    (rel : ∀ {vs : List V} {us : List Value} {zs : List V} {ws : List Value}, Vals vs us → Vals zs ws → Vals (g vs zs) (g us ws))
    (h : ∀ (kV doc pm : Value) (an : Option Addr) (cdv ct : Value) (us ws : List Value), us.length = n → ws.length = ks.length → bindArgs (PySem.W.fnOf x qual params body scope .none kV doc pm an cdv ct) ⟨us, ks.zip ws⟩ = pure (ps.zip (g us ws))) :
    KBn K fd ps n ks (fun us ws => g us ws) (fun vs zs => g vs zs) := by
  obtain ⟨oc, od, dV, kV, doc, pm, an, cdv, ct, osl, e, _, _, hD, _⟩ := F.ex
  subst e
  rcases hD with ⟨_, e⟩ | ⟨no, _⟩
  · subst e
    exact ⟨fun s us ws _ l1 l2 => .of_eq (h kV doc pm an cdv ct us ws l1 l2), fun r1 r2 => rel r1 r2⟩
  · exact absurd rfl no
section
variable {X : Cx} {E : XK} {x : Str} {params : Arguments} {body : List Stmt} {scope : Scope} {dvs : List V} {ps : List Str} {k : Nat} {C : DC} {e : Expr} {es : List Expr} {p pos : Pos} {fa fk : FX (List D)}
abbrev OkX (X : Cx) (x : Str) (params : Arguments) (body : List Stmt) (scope : Scope) (dvs : List V) (ps : List Str) (k : Nat) (C : DC) : Prop := OkF X.prog X.w X.K X.mg X.base x params body scope dvs ps k C
/-- f(a, ..), every parameter written -/
theorem dg_f (F : OkX X x params body scope [] ps k C) (hg0 : Bare X.A) (hr : Room k X.A) (hg : Gl X x) (hm : X.mg x = some (.ref (He.ga X.K x)))
    (hb : ∀ (kV doc pm : Value) (an : Option Addr) (cdv ct : Value) (us : List Value), us.length = ps.length → bindArgs (PySem.W.fnOf x x params body scope .none kV doc pm an cdv ct) ⟨us, []⟩ = pure (ps.zip us))
    (ha : DA X E (e :: es) fa) (hx : Passes (L2N.CX X.prog X.w) X E := by first | exact passE0 | exact passDef | assumption) (hdb : (x == ("__debug__" : Str)) = false := by decide) (he : starEach (e :: es) X.env = (false, eval e X.env) :: starEach es X.env := by rfl) (hpl : (backTo pos (starEach es X.env)).any (·.1) = false := by rfl) :
    DG X E (.Call (.Name x p) (e :: es) [] pos) (fOwn C [] fa) := by
  obtain ⟨fd, D, G⟩ := F
  exact dg_call G hg0 hr hg hm D.kp (D.bindsN hb) .nil (fun _ _ _ => .nil) hx ha hdb he hpl
/-- f(a, ..) with the defaults behind the n written ones -/
theorem dg_fd {dds : List D} (n j : Nat) (F : OkX X x params body scope dvs ps k C) (hg0 : Bare X.A) (hr : Room k X.A) (hg : Gl X x) (hm : X.mg x = some (.ref (He.ga X.K x))) (hd : dvs ≠ []) (hn : n + (dvs.length - j) = ps.length)
    (hb : ∀ (T : Addr) (kV doc pm : Value) (an : Option Addr) (cdv ct : Value) (us its : List Value), us.length = n → its.length = dvs.length →
      ∃ k, bindArgs (PySem.W.fnOf x x params body scope (.ref T) kV doc pm an cdv ct) ⟨us, []⟩ = seqItems? (.ref T) >>= k ∧ k (some its.toArray) = pure (ps.zip (us ++ its.drop j)))
    (hdd : ∀ pa F H, RepAll X.K pa F H (dvs.drop j) dds)
    (ha : DA X E (e :: es) fa) (hx : Passes (L2N.CX X.prog X.w) X E := by first | exact passE0 | exact passDef | assumption) (hdb : (x == ("__debug__" : Str)) = false := by decide) (he : starEach (e :: es) X.env = (false, eval e X.env) :: starEach es X.env := by rfl) (hpl : (backTo pos (starEach es X.env)).any (·.1) = false := by rfl) :
    DG X E (.Call (.Name x p) (e :: es) [] pos) (fOwn C dds fa) := by
  obtain ⟨fd, D, G⟩ := F
  obtain ⟨ds, h1, h2⟩ := D.binds1 n j hd hn hb
  exact dg_call G hg0 hr hg hm D.kp h2 h1 hdd hx ha hdb he hpl
/-- the keywords' values -/
def DK (X : Cx) (E : XK) (kws : List Keyword) (f : FX (List D)) : Prop := PK X kws (rdA X.K E okA f)
theorem dk_nil : DK X E [] aNil := ⟨fun pos pins s σ H Q I ⟨G, F, δ, Qd, Ed, eK, I', hf, hx, k⟩ => pk_nil.run pos pins s σ H Q I (k [] δ F H [] hf I' Stp.refl .nil)⟩
theorem dk_cons {nm : Option Str} {kpos : Pos} {kws : List Keyword} {f : FX D} {g : FX (List D)} (ha : DG X E e f) (hr : DK X E kws g) : DK X E (⟨nm, e, kpos⟩ :: kws) (aCons f g) :=
  ⟨fun pos pins s σ H Q I ⟨G, F, δ, Qd, Ed, eK, I', hf, hx, k⟩ => (pk_cons ha hr).run pos pins s σ H Q I ⟨G, F, δ, _, Ed, eK, I', hf, hx, fun d δ1 F1 H1 v q1 I1 e1 r1 => ⟨G, F1, δ1, _, Ed, eK, I1, q1, hx, fun ds δ2 F2 H2 vs q2 I2 e2 r2 => k (d :: ds) δ2 F2 H2 (v :: vs) q2 I2 (e1.trans e2) (.cons (Rep.ext e2.ext d r1) r2)⟩⟩⟩
def fOwnK (C : DC) (g : List D → List D → List D) (n m : Nat) (fa fk : FX (List D)) : FX D := fun Ed δ Q => fa Ed δ fun ds δ1 => fk Ed δ1 fun zs δ2 => (ds.length = n ∧ zs.length = m) ∧ C (g ds zs) δ2.n (fun d n => Q d ⟨δ2.sl, n⟩) Ed
theorem rd_ownK {bg : {α : Type} → List α → List α → List α} (rel : ∀ {K : KF} {pa : Option Addr} {F : FS} {H : Hp} {vs : List V} {ds : List D} {zs : List V} {es : List D}, RepAll K pa F H vs ds → RepAll K pa F H zs es → RepAll K pa F H (bg vs zs) (bg ds es)) {n m : Nat} {σ : L2.St} {H : Hp} {Q : VK}
    (h : rdA X.K E okG (fOwnK C (fun ds zs => bg ds zs) n m fa fk) σ H Q) : tCallN n m (spD X.K C) (fun vs zs => bg vs zs) E (rdA X.K E okA fa) (rdA X.K E okA fk) σ H Q := by
  obtain ⟨G, F, δ, Qd, Ed, eK, I, hf, hx, k⟩ := h
  refine ⟨G, F, δ, _, Ed, eK, I, hf, hx, fun ds δ1 F1 H1 vs q1 I1 s1 r1 => ⟨G, F1, δ1, _, Ed, eK, I1, q1, hx, fun zs δ2 F2 H2 us q2 I2 s2 r2 => ?_⟩⟩
  obtain ⟨⟨l1, l2⟩, q2⟩ := q2
  have r1' : RepAll G.K G.pa F2 H2 vs ds := RepAll.ext s2.ext _ r1
  have r2' : RepAll G.K G.pa F2 H2 us zs := r2
  rw [eK] at r1' r2'
  refine ⟨by rw [r1'.len]; exact l1, by rw [r2'.len]; exact l2, F2, G.pa, δ2.n, bg ds zs, _, Ed, I2.bas.trk, ⟨I2.bas.pen, by rw [← eK]; exact I2.bas.tab⟩, rel r1' r2', q2, ?_, fun d n F' H' v q C' r => ?_⟩
  · have := XOk.call I2.bas hx
    rw [eK] at this
    exact this
  · rw [← eK] at C' r
    obtain ⟨I3, s3⟩ := I2.call C'
    exact k d _ F' H' v q I3 ((s1.trans s2).trans s3) r
/-- f(k = v, ..): keywords alone -/
theorem pe_callGk0 {fd : FuncData} {CX : CXT} {f : Addr} {sp : Sp} {ks : List Str} {kws : List Keyword} {tk : TA} {bg : List Value → List Value → List Value} {bv : List V → List V → List V} (F : FnG X.prog X.w X.K X.mg X.base CX k f fd ps sp) (g : Bare X.A) (room : Room k X.A) (gl : Gl X x) (at_ : X.mg x = some (.ref f)) (kept : PySem.W.keepIn X.K (.ref f) = true) (bi : KBn X.K fd ps 0 ks bg bv) (pas : Passes CX X E)
    (kwa : PK X kws tk) (k1 : (backToKw pos (keywordEach kws X.env)).all (·.1.isSome) = true := by rfl) (k2 : (backToKw pos (keywordEach kws X.env)).filterMap (·.1) = ks := by rfl)
    (nd : (x == ("__debug__" : Str)) = false := by decide) (h2 : ((backTo pos (starEach [] X.env)).any (·.1) || (backToKw pos (keywordEach kws X.env)).any (·.1.isNone)) = false := by rfl) :
    PE X (.Call (.Name x p) [] kws pos) (tCallN 0 ks.length sp bv E tNil tk) := by
  constructor
  intro pins s σ H Q I want
  apply wpAny_Call_Name_kw
  refine ld_glob I gl at_ (PySem.W.callWith_KW0 (h₀ := X.base) I.ok.mod.kin kept k1 ?_ h2) nd
  refine thn (kwa.run pos pins s σ H _ I want) ?_
  rintro ws s2 ⟨zs, H2, I2, relK, c1, c2, want2⟩
  rw [k2]
  exact ⟨I2.kIn, F.use g room pas I2 (bi.to s2 [] ws I2.kIn rfl (relK.length.symm.trans c2)) (bi.rel .nil relK) want2⟩
theorem dg_fk0 {kws : List Keyword} {ks : List Str} (bg : {α : Type} → List α → List α → List α) (F : OkX X x params body scope [] ps k C) (hg0 : Bare X.A) (hr : Room k X.A) (hg : Gl X x) (hm : X.mg x = some (.ref (He.ga X.K x)))
    (relV : ∀ {vs : List V} {us : List Value} {zs : List V} {ws : List Value}, Vals vs us → Vals zs ws → Vals (bg vs zs) (bg us ws))
    (relD : ∀ {K : KF} {pa : Option Addr} {F : FS} {H : Hp} {vs : List V} {ds : List D} {zs : List V} {es : List D}, RepAll K pa F H vs ds → RepAll K pa F H zs es → RepAll K pa F H (bg vs zs) (bg ds es))
    (hb : ∀ (kV doc pm : Value) (an : Option Addr) (cdv ct : Value) (us ws : List Value), us.length = 0 → ws.length = ks.length → bindArgs (PySem.W.fnOf x x params body scope .none kV doc pm an cdv ct) ⟨us, ks.zip ws⟩ = pure (ps.zip (bg us ws)))
    (hk : DK X E kws fk) (hx : Passes (L2N.CX X.prog X.w) X E := by first | exact passE0 | exact passDef | assumption) (k1 : (backToKw pos (keywordEach kws X.env)).all (·.1.isSome) = true := by rfl) (k2 : (backToKw pos (keywordEach kws X.env)).filterMap (·.1) = ks := by rfl)
    (nd : (x == ("__debug__" : Str)) = false := by decide) (h2 : ((backTo pos (starEach [] X.env)).any (·.1) || (backToKw pos (keywordEach kws X.env)).any (·.1.isNone)) = false := by rfl) :
    DG X E (.Call (.Name x p) [] kws pos) (fOwnK C (fun ds zs => bg ds zs) 0 ks.length aNil fk) := by
  obtain ⟨fd, D, G⟩ := F
  refine PE.imp (pe_callGk0 (E := E) G hg0 hr hg hm D.kp (FunD.kb D 0 ks bg relV hb) hx hk k1 k2 nd h2) fun σ H Q h => ?_
  have h3 := rd_ownK (fa := aNil) (bg := bg) relD h
  obtain ⟨G, F, δ, Qd, Ed, eK, I, hf, hx, k⟩ := h3
  exact k [] δ F H [] hf I Stp.refl .nil
end

/-! ### a def's proof -/
theorem okF_of {P : Program} {w : World} {K : KF} {mg : Str → Option Value} {base : Heap} {x : Str} {params : Arguments} {body : List Stmt} {scope : Scope} {dvs : List V} {N ps : List Str} {k : Nat} {C : DC} {g : FSt} (F : ∃ fd, FunD K x x params body scope dvs [] (He.ga K x) fd) (S : FnScope N ps scope)
    (hl : ∀ ds n Q Ed, C ds n Q Ed → ds.length = ps.length)
    (hw : ∀ (cdv : Value) (A : Around) (outer : List Env) (s : Shared) (H : Hp) (E : XK), Bare A → Room k (A.deeper (envOfC x scope s.heap.objs.size (He.ga K x) cdv)) → DSs (cxOf (L2N.CX P w) P w K mg base N x scope (He.ga K x) cdv A outer s H E) E body g)
    (hc : ∀ ds n Q Ed, C ds n Q Ed → g Ed ⟨fun δ => Q .non δ.n, Q, fun _ => False, fun _ => False⟩ (startD N ds n)) : OkF P w K mg base x params body scope dvs ps (k + 1) C := by
  obtain ⟨fd, D⟩ := F
  exact ⟨fd, D, fn_data D S hl hw hc⟩

/-! ### constants, global names -/
section
variable {X : Cx} {E : XK} {pos : Pos}
theorem dg_int {i : Int} {j} : DG X E (.Constant (.int i) j pos) (gC (.int i)) := dg_c pe_int fun _ _ _ => .int _
theorem dg_str {x : Str} {j} : DG X E (.Constant (.str x) j pos) (gC (.str x)) := dg_c pe_str fun _ _ _ => .str _
theorem dg_bl {b : Bool} {j} : DG X E (.Constant (.bool b) j pos) (gC (.bl b)) := dg_c pe_bl fun _ _ _ => .bl _
theorem dg_non {j} : DG X E (.Constant .none j pos) (gC .non) := dg_c pe_non fun _ _ _ => .non
theorem dg_gstr {x z : Str} (hg : Gl X x) (hm : ∃ t, X.mg x = some (.str z t)) (hd : (x == ("__debug__" : Str)) = false := by decide) : DG X E (.Name x pos) (gC (.str z)) := by
  obtain ⟨t, e⟩ := hm
  exact dg_c (pe_glob hg e (v := .str _) ⟨t, rfl⟩ hd) fun _ _ _ => .str _
theorem dg_gint {x : Str} {i : Int} (hg : Gl X x) (hm : ∃ t, X.mg x = some (.int i t)) (hd : (x == ("__debug__" : Str)) = false := by decide) : DG X E (.Name x pos) (gC (.int i)) := by
  obtain ⟨t, e⟩ := hm
  exact dg_c (pe_glob hg e (v := .int _) ⟨t, rfl⟩ hd) fun _ _ _ => .int _
theorem dg_gobj {x : Str} (hg : Gl X x) (hm : X.mg x = some (.ref (He.ga X.K x))) (hd : (x == ("__debug__" : Str)) = false := by decide) : DG X E (.Name x pos) (gC (.cls x)) := dg_c (pe_glob hg hm (v := .ref _) rfl hd) fun _ _ _ => .cls _
theorem dg_ty {x : Str} {T : TyN} (hg : Gl X x) (hm : X.mg x = none) (hv : bootBuiltins x = some (.type T.name)) (hn : x ≠ "__name__" := by decide) (hd : (x == ("__debug__" : Str)) = false := by decide) : DG X E (.Name x pos) (gC (.ty T)) := dg_c (pe_bltn hg hm hv (v := .ty _) rfl hn hd) fun _ _ _ => .ty _
end
theorem bt_int : bootBuiltins "int" = some (.type TyN.int.name) := by decide +kernel
theorem bt_bool : bootBuiltins "bool" = some (.type TyN.bl.name) := by decide +kernel
theorem bt_str : bootBuiltins "str" = some (.type TyN.str.name) := by decide +kernel
theorem bt_list : bootBuiltins "list" = some (.type TyN.lst.name) := by decide +kernel
theorem bt_tuple : bootBuiltins "tuple" = some (.type TyN.tup.name) := by decide +kernel
theorem bt_dict : bootBuiltins "dict" = some (.type TyN.dct.name) := by decide +kernel

/-! ### a table of the module: texts to whole numbers -/
/-- what the table at the global x holds -/
def TabOk (K : KF) (w : World) (x : Str) (kvs : List (Str × Int)) : Prop := (∃ es n, KDict K w (He.ga K x) es n) ∧ ∀ q ∈ kvs, ∃ t, PySem.W.nsIn K (He.ga K x) q.1 = some (some (.int q.2 t))
def fTabIn (neg : Bool) (kvs : List (Str × Int)) (fa : FX D) : FX D := fun Ed δ Q => fa Ed δ fun d δ1 => match d with
  | .str z => match kvs.lookup z with
    | some _ => Q (.bl (!neg)) δ1
    | none => False
  | _ => False
def fTabIx (kvs : List (Str × Int)) (fa : FX D) : FX D := fun Ed δ Q => fa Ed δ fun d δ1 => match d with
  | .str z => match kvs.lookup z with
    | some i => Q (.int i) δ1
    | none => False
  | _ => False
theorem lookup_mem {kvs : List (Str × Int)} {z : Str} {i : Int} (h : kvs.lookup z = some i) : (z, i) ∈ kvs := by
  induction kvs with
  | nil => cases h
  | cons p kvs ih =>
    obtain ⟨a, b⟩ := p
    rw [List.lookup_cons] at h
    split at h
    · rename_i e
      cases h
      rw [eq_of_beq e]
      exact List.mem_cons_self ..
    · exact List.mem_cons_of_mem _ (ih h)
section
variable {X : Cx} {E : XK} {a : Expr} {x : Str} {kvs : List (Str × Int)} {fa : FX D} {p pos : Pos}
theorem dg_tabIn (T : TabOk X.K X.w x kvs) (hg : Gl X x) (hm : X.mg x = some (.ref (He.ga X.K x))) (ha : DG X E a fa) (hd : (x == ("__debug__" : Str)) = false := by decide) (hb : behindInMarks .In (.Name x p) = false := by rfl) :
    DG X E (.Compare a [.In] [.Name x p] pos) (fTabIn false kvs fa) := by
  obtain ⟨⟨es, n, D⟩, vals⟩ := T
  refine PE.imp (pe_cmpR (op_in_kd D) ha (pe_glob hg hm (v := .ref _) rfl hd) hb) fun σ H Q ⟨G, F, δ, Qd, Ed, eK, I, hf, hx, k⟩ => ⟨G, F, δ, _, Ed, eK, I, hf, hx, fun d δ1 F1 H1 v q1 I1 s1 r1 => ?_⟩
  cases d with
  | str z =>
    cases r1
    dsimp only at q1
    cases e : kvs.lookup z with
    | none => rw [e] at q1; exact q1.elim
    | some i =>
      rw [e] at q1
      obtain ⟨t, e1⟩ := vals _ (lookup_mem e)
      exact ⟨z, _, rfl, rfl, e1, k _ δ1 F1 H1 _ q1 I1 s1 (.bl _)⟩
  | _ => exact q1.elim
theorem dg_tabNot (T : TabOk X.K X.w x kvs) (hg : Gl X x) (hm : X.mg x = some (.ref (He.ga X.K x))) (ha : DG X E a fa) (hd : (x == ("__debug__" : Str)) = false := by decide) (hb : behindInMarks .NotIn (.Name x p) = false := by rfl) :
    DG X E (.Compare a [.NotIn] [.Name x p] pos) (fTabIn true kvs fa) := by
  obtain ⟨⟨es, n, D⟩, vals⟩ := T
  refine PE.imp (pe_cmpR (op_notIn_kd D) ha (pe_glob hg hm (v := .ref _) rfl hd) hb) fun σ H Q ⟨G, F, δ, Qd, Ed, eK, I, hf, hx, k⟩ => ⟨G, F, δ, _, Ed, eK, I, hf, hx, fun d δ1 F1 H1 v q1 I1 s1 r1 => ?_⟩
  cases d with
  | str z =>
    cases r1
    dsimp only at q1
    cases e : kvs.lookup z with
    | none => rw [e] at q1; exact q1.elim
    | some i =>
      rw [e] at q1
      obtain ⟨t, e1⟩ := vals _ (lookup_mem e)
      exact ⟨z, _, rfl, rfl, e1, k _ δ1 F1 H1 _ q1 I1 s1 (.bl _)⟩
  | _ => exact q1.elim
end
/-! ### f'..' -/
def fFmt (f : FX D) : FX D := fun Ed δ Q => f Ed δ fun d δ1 => match d with
  | .str y => y.length ≤ sizeLine ∧ Q (.str y) δ1
  | .int i => i.natAbs.log2 < 1920 ∧ Q (.str (toString i)) δ1
  | _ => False
def fJs : List (FX D) → Str → EdT → Dst → (D → Dst → Prop) → Prop
  | [], acc, _, δ, Q => Q (.str acc) δ
  | f :: fs, acc, Ed, δ, Q => f Ed δ fun d δ1 => match d with
    | .str y => (acc ++ y).length ≤ sizeLine ∧ fJs fs (acc ++ y) Ed δ1 Q
    | _ => False
inductive DJ (X : Cx) (E : XK) : List Expr → List (FX D) → Prop where
  | nil : DJ X E [] []
  | cons {e : Expr} {f : FX D} {es : List Expr} {fs : List (FX D)} (h : DG X E e f) (r : DJ X E es fs) : DJ X E (e :: es) (f :: fs)
section
variable {X : Cx} {E : XK} {e v1 v2 : Expr} {rest : List Expr} {fs : List (FX D)} {pos : Pos}
theorem dg_fmt {f : FX D} (h : DG X E e f) : DG X E (.FormattedValue e (-1) none pos) (fFmt f) := PE.imp (pe_fmt h) fun σ H Q ⟨G, F, δ, Qd, Ed, eK, I, hf, hx, k⟩ => ⟨G, F, δ, _, Ed, eK, I, hf, hx, fun d δ1 F1 H1 v q1 I1 s1 r1 => by
  cases d with
  | str y => cases r1; exact .inl ⟨y, rfl, q1.1, k _ δ1 F1 H1 _ q1.2 I1 s1 (.str _)⟩
  | int i => cases r1; exact .inr ⟨i, rfl, q1.1, k _ δ1 F1 H1 _ q1.2 I1 s1 (.str _)⟩
  | _ => exact q1.elim⟩
theorem DJ.pj {es : List Expr} (h : DJ X E es fs) : PJ X es (fs.map fun f => rdA X.K E okG f) := by
  induction h with
  | nil => exact .nil
  | cons h _ ih => exact .cons h ih
theorem rd_js {Q : VK} {Ed : EdT} {Qd : D → Dst → Prop} {G : Gd} {σ : L2.St} {F0 : FS} {H0 : Hp} {δ0 : Dst} (eK : G.K = X.K) (hx : XOk G E Ed) (k : ∀ d δ' F' H' v, Qd d δ' → Hold G F' δ' σ H' → Stp G σ δ0 F0 H0 δ' F' H' → Rep G.K G.pa F' H' v d → Q v H') :
    ∀ (fs : List (FX D)) (acc : Str) (δ : Dst) (F : FS) (H : Hp), Hold G F δ σ H → Stp G σ δ0 F0 H0 δ F H → fJs fs acc Ed δ Qd → tJs (fs.map fun f => rdA X.K E okG f) acc σ H fun out H1 => Q (.str out) H1
  | [], acc, δ, F, H, I, s, q => k _ δ F H _ q I s (.str _)
  | f :: fs, acc, δ, F, H, I, s, q => ⟨G, F, δ, _, Ed, eK, I, q, hx, fun d δ1 F1 H1 v q1 I1 s1 r1 => by
    cases d with
    | str y => cases r1; exact ⟨y, rfl, q1.1, rd_js eK hx k fs _ δ1 F1 H1 I1 (s.trans s1) q1.2⟩
    | _ => exact q1.elim⟩
theorem dg_joined (h : DJ X E (v1 :: v2 :: rest) fs) : DG X E (.JoinedStr (v1 :: v2 :: rest) pos) (fun Ed δ Q => fJs fs Str.empty Ed δ Q) :=
  PE.imp (pe_joined h.pj) fun σ H Q ⟨G, F, δ, Qd, Ed, eK, I, hf, hx, k⟩ => rd_js (δ0 := δ) (F0 := F) (H0 := H) eK hx k fs Str.empty δ F H I Stp.refl hf
end
end DS
end
section
set_option maxRecDepth 100000
set_option maxHeartbeats 1000000
/-! DS14: the pen: what a draw promises, how the pen is made. -/
namespace DS
open PySem PySem.Spec PyProof.Rows L2
/-- what a draw promises: any number below many -/
def C_draw : DC := fun ds n Q _ => ∃ many : Int, ds = [.pen, .int many] ∧ 1 ≤ many ∧ many < 1073741824 ∧ n < 1048576 ∧ ∀ r : Int, 0 ≤ r → r < many → Q (.int r) (n + 1)
/-- the pen at p -/
structure PenAt (F : FS) (H : Hp) (p c : Addr) (ns : List Int) (at_ rest : Int) (n : Nat) : Prop where
  nf : ¬ F p
  hp : H p = some (.lst [.ref c, .int at_, .int rest])
  fc : F c
  hc : Rd H c (.lst (ns.map V.int))
  len : ns.length ≤ 63
  a0 : 0 ≤ at_
  an : at_ ≤ n
  r0 : 0 ≤ rest
/-- behind the call: all but the pen is as it was, there may be more -/
def PenTo (H : Hp) (p c : Addr) (a' r' : Int) (H' : Hp) : Prop := (∀ b o, b ≠ p → H b = some o → H' b = some o) ∧ H' p = some (.lst [.ref c, .int a', .int r'])
theorem pen_end {K : KF} {F : FS} {H H' : Hp} {p c : Addr} {ns : List Int} {a r a' r' : Int} {n m : Nat} (P : PenAt F H p c ns a r n) (ht : ∀ x, F x → H x ≠ none) (tb : TabsF (TK K) F H) (to : PenTo H p c a' r' H') (h0 : 0 ≤ a') (hm : a' ≤ m) (hr : 0 ≤ r') :
    Bas ⟨K, F, H, some p⟩ F H' m := by
  obtain ⟨keep, at_⟩ := to
  have ne : ∀ {x : Addr}, F x → x ≠ p := fun f z => P.nf (z ▸ f)
  refine ⟨fun _ h => h, fun _ h => .inl h, fun b o h np => keep b o (fun z => np.pen (by rw [z])) h, fun x f => ?_, ⟨P.nf, c, ns, a', r', at_, P.fc, ?_, P.len, h0, hm, hr⟩, tb.ext ⟨fun _ h => h, fun x o f h => keep x o (ne f) h⟩ fun q hq => ?_⟩
  · obtain ⟨o, q⟩ := Option.ne_none_iff_exists'.mp (ht x f)
    rw [keep x o (ne f) q]; simp
  · rcases P.hc with h | ⟨o, h⟩
    · exact .inl (keep _ _ (ne P.fc) h)
    · exact .inr ⟨o, keep _ _ (ne P.fc) h⟩
  · obtain ⟨ps, q1, q2, _⟩ := tb q hq
    refine ⟨?_, q2⟩
    rw [q1]
    exact keep _ _ (fun z => by rw [z, P.hp] at q1; cases q1) q1
theorem draw_start {K : KF} {vs : List V} {H : Hp} {Q : VK} {E : XK} (h : spD K C_draw vs H Q E) : ∃ (F : FS) (p c : Addr) (ns : List Int) (a r many : Int) (n : Nat), vs = [.ref p, .int many] ∧ PenAt F H p c ns a r n ∧ 1 ≤ many ∧ many < 1073741824 ∧ n < 1048576 ∧
    ∀ (a' r' z : Int) (H' : Hp), PenTo H p c a' r' H' → 0 ≤ a' → a' ≤ n + 1 → 0 ≤ r' → 0 ≤ z → z < many → Q (.int z) H' := by
  obtain ⟨F, pa, n, ds, Qd, Ed, h1, h2, h3, ⟨many, rfl, m1, m2, hn, hq⟩, h5, h6⟩ := h
  obtain ⟨v, u, rfl, r1, r2⟩ := rep2 h3
  cases r2
  cases r1 with
  | @pen p e =>
    subst e
    obtain ⟨⟨nf, c, ns, a, r, k1, k2, k3, k4, k5, k6, k7⟩, tb⟩ := h2
    have P : PenAt F H p c ns a r n := ⟨nf, k1, k2, k3, k4, k5, k6, k7⟩
    exact ⟨F, p, c, ns, a, r, many, n, rfl, P, m1, m2, hn, fun a' r' z H' to b1 b2 b3 b4 b5 => h6 (.int z) (n + 1) F H' _ (hq z b4 b5) (pen_end P h1 tb to b1 (by omega) b3) (.int z)⟩
theorem PenTo.put (H : Hp) (p c : Addr) (a' r' : Int) : PenTo H p c a' r' (upd H p (.lst [.ref c, .int a', .int r'])) := ⟨fun b o ne h => by rw [upd_ne ne]; exact h, upd_same⟩
/-- the pen is made -/
def spPen (K : KF) : Sp := fun vs H Q _ => ∃ (a : Addr) (ns : List Int), vs = [.ref a] ∧ SqL K H a (ns.map V.int) ∧
  ∀ (H' : Hp) (p c : Addr), (∀ b o, H b = some o → H' b = some o) → H p = none → H c = none → p ≠ c → H' c = some (.lst ((cutV (ns.map V.int) none (some 63)))) → H' p = some (.lst [.ref c, .int 0, .int 0]) → Q (.ref p) H'
end DS
namespace DS
open PySem PySem.Spec PyProof.Rows L2
theorem bb_abs : bootBuiltins "abs" = some (.builtin "abs") := by decide +kernel
theorem bb_len : bootBuiltins "len" = some (.builtin "len") := by decide +kernel
theorem bb_isinstance : bootBuiltins "isinstance" = some (.builtin "isinstance") := by decide +kernel
theorem bb_sorted : bootBuiltins "sorted" = some (.builtin "sorted") := by decide +kernel
theorem bb_all : bootBuiltins "all" = some (.builtin "all") := by decide +kernel
theorem bb_any : bootBuiltins "any" = some (.builtin "any") := by decide +kernel
theorem bb_sum : bootBuiltins "sum" = some (.builtin "sum") := by decide +kernel
theorem bb_max : bootBuiltins "max" = some (.builtin "max") := by decide +kernel
theorem bb_min : bootBuiltins "min" = some (.builtin "min") := by decide +kernel
theorem bb_repr : bootBuiltins "repr" = some (.builtin "repr") := by decide +kernel
end DS
end
section
set_option maxRecDepth 100000
set_option maxHeartbeats 1000000
namespace DS
open PySem PySem.Spec PyProof.Rows L2
/-! ### a draw, step by step -/
abbrev rInt1 : List V → Hp → VK → Prop := fun xs H Q => (∃ i, xs = [.int i] ∧ Q (.int i) H) ∨ ∃ k, xs = [.bl k] ∧ Q (.int (if k then 1 else 0)) H
abbrev rLenS (K : KF) : List V → Hp → VK → Prop := fun xs H Q => ∃ p ys, xs = [.ref p] ∧ (SqL K H p ys ∨ SqT K H p ys) ∧ Q (.int ys.length) H
abbrev rAbs1 : List V → Hp → VK → Prop := fun xs H Q => ∃ i, xs = [.int i] ∧ Q (.int (if i < 0 then -i else i)) H
abbrev r1 (r : List V → Hp → VK → Prop) (t : TE) : TE := tCB r (tCons t tNil)
abbrev rAdd0 : R2 := rI0 fun i j => .int (i + j)
abbrev rSub0 : R2 := rI0 fun i j => .int (i - j)
abbrev rMul0 : R2 := rI CMul fun i j => .int (i * j)
abbrev rFd0 : R2 := rI CDiv fun i j => .int (i / j)
abbrev rMod0 : R2 := rI (fun _ j => 0 < j) fun i j => .int (i % j)
abbrev rPow0 : R2 := rI CPow fun i j => .int (i ^ j.toNat)
abbrev rLt0 : R2 := rI0 fun i j => .bl (decide (i < j))
abbrev rGt0 : R2 := rI0 fun i j => .bl (decide (j < i))
abbrev rGe0 : R2 := rI0 fun i j => .bl (decide (j ≤ i))
abbrev cI (i : Int) : TE := tC (.int i)
section
variable (K : KF)
abbrev pIx (i : Int) : TE := tOp (rIxL K) (tVar 0) (cI i)
abbrev t_d1 : TS := tIfS (tTest (tOp rGt0 (pIx K 2) (cI 0))) (tSeq (tAsg (r1 rInt1 (pIx K 2)) (L2.gName 2)) (tSeq (tAsg (tOp rFd0 (tVar 2) (tVar 1)) (L2.gSub (tVar 0) (cI 2) rSetL)) (tRet (tOp rMod0 (r1 rInt1 (tVar 2)) (tVar 1))))) tNext
abbrev t_d5 : TS := tIfS (tTest (tOp (rNeD K) (pIx K 0) (tLst tNil))) (tAsg (tOp (rIxL K) (pIx K 0) (tOp rMod0 (r1 rInt1 (tVar 3)) (r1 (rLenS K) (pIx K 0)))) (L2.gName 4)) tNext
abbrev t_abs : TE := tOp rSub0 (r1 rAbs1 (tVar 4)) (tOp rPow0 (cI 10) (cI 18))
abbrev t_d6 : TS := tIfS (tAnd (tTest (tOp rLt0 (tVar 3) (r1 (rLenS K) (pIx K 0)))) (tTest (tOp rGe0 (r1 rAbs1 (tVar 4)) (tOp rPow0 (cI 10) (cI 18)))))
  (tSeq (tAsg (tOp rAdd0 (tOp rMul0 (cI 2) t_abs) (r1 rInt1 (tOp rLt0 (tVar 4) (cI 0)))) (L2.gName 2)) (tSeq (tAsg (tOp rFd0 (r1 rInt1 (tVar 2)) (tVar 1)) (L2.gSub (tVar 0) (cI 2) rSetL)) (tRet (tOp rMod0 (r1 rInt1 (tVar 2)) (tVar 1))))) tNext
abbrev t_m1 : TE := tOp rMod0 (r1 rInt1 (tOp rPow0 (tOp rAdd0 (tOp rAdd0 (tOp rMod0 (r1 rInt1 (tVar 4)) (cI 2147483549)) (tOp rMul0 (cI 90481) (tVar 3))) (cI 1811)) (cI 5))) (cI 2147483563)
abbrev t_m2 : TE := tOp rMod0 (r1 rInt1 (tOp rPow0 (tOp rAdd0 (tOp rAdd0 (tOp rMul0 (tVar 5) (tOp rAdd0 (tOp rMul0 (cI 2) (tVar 3)) (cI 1811))) (tOp rMul0 (tOp rMul0 (cI 61861) (tVar 3)) (tVar 3))) (cI 90481)) (cI 3))) (cI 2147483587)
/-- the reading of a draw's body -/
def t_draw : TS := tSeq (t_d1 K) (tSeq (tAsg (pIx K 1) (L2.gName 3)) (tSeq (tAsg (tOp rAdd0 (tVar 3) (cI 1)) (L2.gSub (tVar 0) (cI 1) rSetL)) (tSeq (tAsg (tOp rAdd0 (tOp rMul0 (cI 61861) (tVar 3)) (cI 27103)) (L2.gName 4))
  (tSeq (t_d5 K) (tSeq (t_d6 K) (tSeq (tAsg t_m1 (L2.gName 5)) (tSeq (tAsg t_m2 (L2.gName 5)) (tRet (tOp rMod0 (r1 rInt1 (tOp rFd0 (tVar 5) (cI 64))) (tVar 1))))))))))
end
section
variable {K : KF} {σ : L2.St} {H : Hp} {ta tb : TE} {i j : Int} {D : Ends} {t u : TS}
theorem sq (h : t { D with nx := u D } σ H) : tSeq t u D σ H := h
theorem vI {C : Int → Int → Prop} {g : Int → Int → V} (ha : Val ta σ H (.int i)) (hb : Val tb σ H (.int j)) (hc : C i j) : Val (tOp (rI C g) ta tb) σ H (g i j) := val_op ha hb fun Q q => ⟨_, _, rfl, rfl, hc, q⟩
theorem v0 {g : Int → Int → V} (ha : Val ta σ H (.int i)) (hb : Val tb σ H (.int j)) : Val (tOp (rI0 g) ta tb) σ H (g i j) := val_op ha hb fun Q q => ⟨_, _, rfl, rfl, q⟩
theorem vInt (ha : Val ta σ H (.int i)) : Val (r1 rInt1 ta) σ H (.int i) := fun Q q => ha _ (.inl ⟨i, rfl, q⟩)
theorem vIntB {b : Bool} (ha : Val ta σ H (.bl b)) : Val (r1 rInt1 ta) σ H (.int (if b then 1 else 0)) := fun Q q => ha _ (.inr ⟨b, rfl, q⟩)
theorem vAbs (ha : Val ta σ H (.int i)) : Val (r1 rAbs1 ta) σ H (.int (if i < 0 then -i else i)) := fun Q q => ha _ ⟨i, rfl, q⟩
theorem vLen {a : Addr} {xs : List V} (ha : Val ta σ H (.ref a)) (s : SqL K H a xs) : Val (r1 (rLenS K) ta) σ H (.int xs.length) := fun Q q => ha _ ⟨a, xs, rfl, .inl s, q⟩
theorem vIx {a : Addr} {xs : List V} {v : V} (ha : Val ta σ H (.ref a)) (hb : Val tb σ H (.int i)) (s : SqL K H a xs) (e : atI xs i = some v) : Val (tOp (rIxL K) ta tb) σ H v := val_op ha hb fun Q q => ⟨a, xs, i, v, rfl, rfl, s, e, q⟩
theorem aCmp {g : Int → Int → Bool} (ha : Val ta σ H (.int i)) (hb : Val tb σ H (.int j)) : Ans (tTest (tOp (rI0 fun i j => .bl (g i j)) ta tb)) σ H (g i j) := ans_cmp ha hb fun Q q => ⟨i, j, rfl, rfl, q⟩
theorem sPut {a : Addr} {xs ys : List V} {k : Nat} {v : V} (e : σ[0]? = some (some (.ref a))) (s : H a = some (.lst xs)) (hk : ixN xs.length i = some k) (hv : Val ta σ H v) (ey : xs.set k v = ys) (q : D.nx σ (upd H a (.lst ys))) : tAsg ta (L2.gSub (tVar 0) (cI i) rSetL) D σ H :=
  hv _ ⟨.ref a, e, a, xs, i, k, rfl, rfl, s, hk, by rw [ey]; exact q⟩
theorem sqSet {k : Nat} {v : V} (h : Val ta σ H v) (q : u D (σ.set k (some v)) H) : tSeq (tAsg ta (L2.gName k)) u D σ H := h _ q
theorem sqPut {a : Addr} {xs ys : List V} {k : Nat} {v : V} (e : σ[0]? = some (some (.ref a))) (s : H a = some (.lst xs)) (hk : ixN xs.length i = some k) (hv : Val ta σ H v) (ey : xs.set k v = ys) (q : u D σ (upd H a (.lst ys))) : tSeq (tAsg ta (L2.gSub (tVar 0) (cI i) rSetL)) u D σ H :=
  hv _ ⟨.ref a, e, a, xs, i, k, rfl, rfl, s, hk, by rw [ey]; exact q⟩
theorem sqYes {c : TT} {w : TS} (h : Ans c σ H true) (q : t { D with nx := u D } σ H) : tSeq (tIfS c t w) u D σ H := st_yes h q
theorem sqNo {c : TT} (h : Ans c σ H false) (q : u D σ H) : tSeq (tIfS c t tNext) u D σ H := st_no h (st_next q)
theorem mulL (h1 : -(2 ^ 64) < i) (h2 : i < 2 ^ 64) : CMul i j := .inl ⟨h1, h2⟩
theorem atI_nn {xs : List V} (h0 : 0 ≤ i) (h : i < xs.length) : ∃ v, atI xs i = some v ∧ v = xs[i.toNat]'(by omega) := by
  refine ⟨xs[i.toNat]'(by omega), ?_, rfl⟩
  unfold atI ixN
  rw [if_pos h0, if_pos h]
  exact List.getElem?_eq_getElem _
end
theorem sq_alloc {K : KF} {H : Hp} {q a : Addr} {o : HO} {xs : List V} (s : SqL K H a xs) (hq : H q = none) : SqL K (upd H q o) a xs := by
  rcases s with (h | ⟨ob, h⟩) | h
  · exact .inl (.inl (by rw [upd_ne (fun z => by subst z; rw [hq] at h; cases h)]; exact h))
  · exact .inl (.inr ⟨ob, by rw [upd_ne (fun z => by subst z; rw [hq] at h; cases h)]; exact h⟩)
  · exact .inr h
theorem dp_ints {K : KF} {H : Hp} : ∀ ns : List Int, DpAll K H (ns.map V.int) (ns.map PyData.int)
  | [] => .nil
  | n :: ns => .cons (.int n) (dp_ints ns)
theorem shaped_ints (ns : List Int) : SeqAt.shaped (.list (ns.map PyData.int)) = true := by
  have h1 : ∀ ns : List Int, PyData.canLayAll0 (ns.map PyData.int) = true := fun ns => by
    induction ns with
    | nil => rfl
    | cons n ns ih => simp [PyData.canLayAll0, PyData.canLay0, ih]
  have h2 : ∀ ns : List Int, PyData.depthAll (ns.map PyData.int) = 0 := fun ns => by
    induction ns with
    | nil => rfl
    | cons n ns ih => simp [PyData.depthAll, PyData.depth, ih]
  unfold SeqAt.shaped
  simp [PyData.canLay0, PyData.depth, h1, h2]
theorem upd_id {H : Hp} {a : Addr} {o : HO} (h : H a = some o) : upd H a o = H := by
  funext b
  by_cases z : b = a
  · rw [z, upd_same, h]
  · rw [upd_ne z]
theorem draw_pure {K : KF} {F : FS} {H : Hp} {p c : Addr} {ns : List Int} {at_ r many : Int} {n : Nat} {Q : VK} (PA : PenAt F H p c ns at_ r n) (m1 : 1 ≤ many) (m2 : many < 1073741824) (hn : n < 1048576)
    (fin0 : ∀ (a' r' z : Int) (H' : Hp), PenTo H p c a' r' H' → 0 ≤ a' → a' ≤ n + 1 → 0 ≤ r' → 0 ≤ z → z < many → Q (.int z) H') :
    t_draw K { nx := fun _ H' => Q .non H', rt := Q } [some (.ref p), some (.int many), none, none, none, none] H := by
  have fin : ∀ a' r' z : Int, 0 ≤ a' → a' ≤ n + 1 → 0 ≤ r' → 0 ≤ z → z < many → Q (.int z) (upd H p (.lst [.ref c, .int a', .int r'])) := fun a' r' z => fin0 a' r' z _ (PenTo.put H p c a' r')
  have hp := PA.hp
  have a0 := PA.a0
  have an := PA.an
  have pSq : SqL K H p [.ref c, .int at_, .int r] := SqL.of hp
  have md : ∀ x : Int, 0 ≤ x % many ∧ x % many < many := fun x => ⟨Int.emod_nonneg _ (by omega), Int.emod_lt_of_pos _ (by omega)⟩
  -- a way out by the greatest cell's rest
  have out : ∀ {H3 : Hp} {a' x : Int} {ce ro : V} {z5 : Option V} {D : Ends} {t : TE}, H3 p = some (.lst [.ref c, .int a', ro]) → D.rt = Q → 0 ≤ x → (∀ r' z : Int, 0 ≤ r' → 0 ≤ z → z < many → Q (.int z) (upd H3 p (.lst [.ref c, .int a', .int r']))) → (∀ σ' H', σ'[2]? = some (some (.int x)) → Val t σ' H' (.int x)) →
      ∀ {z2 z3 z4 : Option V}, tSeq (tAsg (tOp rFd0 t (tVar 1)) (L2.gSub (tVar 0) (cI 2) rSetL)) (tRet (tOp rMod0 (r1 rInt1 (tVar 2)) (tVar 1))) D [some (.ref p), some (.int many), some (.int x), z3, z4, z5] H3 := by
    intro H3 a' x ce ro z5 D t h3 eD x0 fin3 ht z2 z3 z4
    refine sqPut (k := 2) (ys := [.ref c, .int a', .int (x / many)]) rfl h3 rfl (vI (ht _ _ rfl) (val_var rfl) ⟨by omega, m2⟩) rfl ?_
    refine st_ret (vI (vInt (val_var rfl)) (val_var rfl) (by omega)) ?_
    rw [eD]
    exact fin3 (x / many) (x % many) (Int.ediv_nonneg x0 (by omega)) (md x).1 (md x).2
  unfold t_draw
  by_cases hr0 : 0 < r
  · refine sqYes ((aCmp (g := fun i j => decide (j < i)) (vIx (val_var rfl) val_c pSq rfl) val_c).to (decide_eq_true hr0)) ?_
    refine sqSet (vInt (vIx (val_var rfl) val_c pSq rfl)) ?_
    exact out (ce := .non) (z2 := none) hp rfl (by omega) (fun r' z b1 b2 b3 => fin at_ r' z a0 (by omega) b1 b2 b3) fun σ' H' e => val_var e
  · have er : r = 0 := by have := PA.r0; omega
    subst er
    refine sqNo ((aCmp (g := fun i j => decide (j < i)) (vIx (val_var rfl) val_c pSq rfl) val_c).to (decide_eq_false hr0)) ?_
    refine sqSet (vIx (val_var rfl) val_c pSq rfl) ?_
    refine sqPut (k := 1) (ys := [.ref c, .int (at_ + 1), .int 0]) rfl hp rfl (v0 (val_var rfl) val_c) rfl ?_
    have pc : c ≠ p := fun z => PA.nf (z ▸ PA.fc)
    have cS : ∀ o, SqL K (upd H p o) c (ns.map V.int) := fun o => .inl (by
      rcases PA.hc with h | ⟨ob, h⟩
      · exact .inl (by rw [upd_ne pc]; exact h)
      · exact .inr ⟨ob, by rw [upd_ne pc]; exact h⟩)
    refine sqSet (v0 (vI val_c (val_var rfl) (mulL (by omega) (by omega))) val_c) ?_
    -- behind the choice of the cell
    have cont : ∀ (cell : Int) (H3 : Hp), H3 p = some (.lst [.ref c, .int (at_ + 1), .int 0]) → SqL K H3 c (ns.map V.int) → (∀ a' r' z : Int, 0 ≤ a' → a' ≤ n + 1 → 0 ≤ r' → 0 ≤ z → z < many → Q (.int z) (upd H3 p (.lst [.ref c, .int a', .int r']))) →
        tSeq (t_d6 K) (tSeq (tAsg t_m1 (L2.gName 5)) (tSeq (tAsg t_m2 (L2.gName 5)) (tRet (tOp rMod0 (r1 rInt1 (tOp rFd0 (tVar 5) (cI 64))) (tVar 1))))) { nx := fun _ H' => Q .non H', rt := Q } [some (.ref p), some (.int many), none, some (.int at_), some (.int cell), none] H3 := by
      intro cell H3 h3 c3 fin3
      have p3 : SqL K H3 p [.ref c, .int (at_ + 1), .int 0] := SqL.of h3
      have same : ∀ z : Int, 0 ≤ z → z < many → Q (.int z) H3 := fun z b1 b2 => by
        have q := fin3 (at_ + 1) 0 z (by omega) (by omega) (by omega) b1 b2
        rwa [upd_id h3] at q
      have b10 : ((10 : Int) ^ (18 : Int).toNat) = 1000000000000000000 := by decide
      have tail : tSeq (tAsg t_m1 (L2.gName 5)) (tSeq (tAsg t_m2 (L2.gName 5)) (tRet (tOp rMod0 (r1 rInt1 (tOp rFd0 (tVar 5) (cI 64))) (tVar 1)))) { nx := fun _ H' => Q .non H', rt := Q } [some (.ref p), some (.int many), none, some (.int at_), some (.int cell), none] H3 := by
        have x1 : 0 ≤ cell % 2147483549 := Int.emod_nonneg _ (by omega)
        have x2 : cell % 2147483549 < 2147483549 := Int.emod_lt_of_pos _ (by omega)
        refine sqSet (vI (vInt (vI (v0 (v0 (vI (vInt (val_var rfl)) val_c (by omega)) (vI val_c (val_var rfl) (mulL (by omega) (by omega)))) val_c) val_c ⟨by omega, by omega, by omega⟩)) val_c (by omega)) ?_
        generalize hz : ((cell % 2147483549 + 90481 * at_ + 1811) ^ (5 : Int).toNat) % 2147483563 = y
        have y1 : 0 ≤ y := by rw [← hz]; exact Int.emod_nonneg _ (by omega)
        have y2 : y < 2147483563 := by rw [← hz]; exact Int.emod_lt_of_pos _ (by omega)
        have at2 : at_ * at_ ≤ 1048576 * 1048576 := Int.mul_le_mul (by omega) (by omega) (by omega) (by omega)
        have at3 : 0 ≤ at_ * at_ := Int.mul_nonneg a0 a0
        have ym : y * (2 * at_ + 1811) ≤ 2147483563 * 2098963 := Int.mul_le_mul (by omega) (by omega) (by omega) (by omega)
        have ym0 : 0 ≤ y * (2 * at_ + 1811) := Int.mul_nonneg y1 (by omega)
        have e3 : 61861 * at_ * at_ = 61861 * (at_ * at_) := Int.mul_assoc _ _ _
        refine sqSet (vI (vInt (vI (v0 (v0 (vI (val_var rfl) (v0 (vI val_c (val_var rfl) (mulL (by omega) (by omega))) val_c) (mulL (by omega) (by omega))) (vI (vI val_c (val_var rfl) (mulL (by omega) (by omega))) (val_var rfl) (mulL (by omega) (by omega)))) val_c) val_c ⟨by omega, by omega, by omega⟩)) val_c (by omega)) ?_
        refine st_ret (vI (vInt (vI (val_var rfl) val_c ⟨by omega, by omega⟩)) (val_var rfl) (by omega)) ?_
        exact same _ (md _).1 (md _).2
      have len3 : Val (r1 (rLenS K) (pIx K 0)) [some (.ref p), some (.int many), none, some (.int at_), some (.int cell), none] H3 (.int (ns.map V.int).length) := vLen (vIx (val_var rfl) val_c p3 rfl) c3
      have t1 := aCmp (g := fun i j => decide (i < j)) (val_var (i := 3) (σ := [some (.ref p), some (.int many), none, some (.int at_), some (.int cell), none]) rfl) len3
      have t2 := aCmp (g := fun i j => decide (j ≤ i)) (vAbs (val_var (i := 4) (σ := [some (.ref p), some (.int many), none, some (.int at_), some (.int cell), none]) (H := H3) rfl)) (vI (C := CPow) (g := fun i j => .int (i ^ j.toNat)) (val_c (v := .int 10)) (val_c (v := .int 18)) ⟨by omega, by omega, by decide⟩)
      have t12 := ans_and2 t1 t2
      cases hb : (decide (at_ < ((ns.map V.int).length : Int)) && decide ((10 : Int) ^ (18 : Int).toNat ≤ (if cell < 0 then -cell else cell))) with
      | false => exact sqNo (t12.to hb) tail
      | true =>
        have big : (10 : Int) ^ (18 : Int).toNat ≤ (if cell < 0 then -cell else cell) := of_decide_eq_true (Bool.and_eq_true_iff.mp hb).2
        refine sqYes (t12.to hb) ?_
        have bit : 0 ≤ (if decide (cell < 0) = true then (1 : Int) else 0) := by split <;> omega
        refine sqSet (v0 (vI val_c (v0 (vAbs (val_var rfl)) (vI val_c val_c ⟨by omega, by omega, by decide⟩)) (mulL (by omega) (by omega))) (vIntB (v0 (val_var rfl) val_c))) ?_
        exact out (ce := .non) (z2 := none) h3 rfl (by omega) (fun r' z b1 b2 b3 => fin3 (at_ + 1) r' z (by omega) (by omega) b1 b2 b3) fun σ' H' e => vInt (val_var e)
    -- is there any cell? (the test makes an empty list)
    have hp2 : (upd H p (.lst [.ref c, .int (at_ + 1), .int 0])) p = some (.lst [.ref c, .int (at_ + 1), .int 0]) := upd_same
    have c2 := cS (.lst [.ref c, .int (at_ + 1), .int 0])
    have keep2 : ∀ b o, b ≠ p → H b = some o → (upd H p (.lst [.ref c, .int (at_ + 1), .int 0])) b = some o := fun b o ne h => by rw [upd_ne ne]; exact h
    generalize upd H p (.lst [.ref c, .int (at_ + 1), .int 0]) = H2 at hp2 c2 keep2 ⊢
    have p2 : SqL K H2 p [.ref c, .int (at_ + 1), .int 0] := SqL.of hp2
    have test : AnsH (tTest (tOp (rNeD K) (pIx K 0) (tLst tNil))) [some (.ref p), some (.int many), none, some (.int at_), some (.int (61861 * at_ + 27103)), none] H2 (!ns.isEmpty) (fun H3 => ∃ q, H2 q = none ∧ H3 = upd H2 q (.lst [])) := by
      intro R hR
      refine vIx (val_var rfl) val_c p2 rfl _ ⟨by show 0 ≤ sizeLine; omega, fun q hq => ?_⟩
      refine ⟨.list (ns.map PyData.int), .list [], .lst (sq_alloc c2 hq) (dp_ints ns), .lst (SqL.of upd_same) .nil, shaped_ints ns, by decide, _, rfl, ?_⟩
      have e : (!PyData.eqv (.list (ns.map PyData.int)) (.list [])) = !ns.isEmpty := by cases ns <;> simp [PyData.eqv, PyData.eqvAll]
      rw [e]
      exact hR _ ⟨q, hq, rfl⟩
    have after : ∀ {H3 : Hp}, (∃ q, H2 q = none ∧ H3 = upd H2 q (.lst [])) → H3 p = some (.lst [.ref c, .int (at_ + 1), .int 0]) ∧ SqL K H3 c (ns.map V.int) ∧ ∀ a' r' z : Int, 0 ≤ a' → a' ≤ n + 1 → 0 ≤ r' → 0 ≤ z → z < many → Q (.int z) (upd H3 p (.lst [.ref c, .int a', .int r'])) := by
      rintro H3 ⟨q, hq, rfl⟩
      have pq : p ≠ q := fun z => by subst z; rw [hp2] at hq; cases hq
      refine ⟨by rw [upd_ne pq]; exact hp2, sq_alloc c2 hq, fun a' r' z b1 b2 b3 b4 b5 => ?_⟩
      refine fin0 a' r' z _ ⟨fun b o ne h => ?_, upd_same⟩ b1 b2 b3 b4 b5
      have h2 := keep2 b o ne h
      rw [upd_ne ne, upd_ne (fun z => by subst z; rw [hq] at h2; cases h2)]
      exact h2
    cases he : ns.isEmpty with
    | true =>
      rw [he] at test
      refine st_noH test fun H3 h3 => ?_
      obtain ⟨k1, k2, k3⟩ := after h3
      exact cont _ H3 k1 k2 k3
    | false =>
      rw [he] at test
      refine st_yesH test fun H3 h3 => ?_
      obtain ⟨k1, k2, k3⟩ := after h3
      have nl : 0 < ns.length := by cases ns with
        | nil => cases he
        | cons _ _ => exact Nat.succ_pos _
      have nl' : (0 : Int) < ((ns.map V.int).length : Int) := by rw [List.length_map]; omega
      have p3 : SqL K H3 p [.ref c, .int (at_ + 1), .int 0] := SqL.of k1
      have i1 : 0 ≤ at_ % ((ns.map V.int).length : Int) := Int.emod_nonneg _ (by omega)
      have i2 : at_ % ((ns.map V.int).length : Int) < ((ns.map V.int).length : Int) := Int.emod_lt_of_pos _ nl'
      obtain ⟨v, e1, e2⟩ := atI_nn i1 i2
      rw [List.getElem_map] at e2
      subst e2
      refine st_set (vIx (vIx (val_var rfl) val_c p3 rfl) (vI (vInt (val_var rfl)) (vLen (vIx (val_var rfl) val_c p3 rfl) k2) (by exact nl')) k2 e1) ?_
      exact cont _ H3 k1 k2 k3
end DS
end
section
set_option maxRecDepth 100000
set_option maxHeartbeats 1000000
/-! DS16: what the generator needs besides. -/
namespace DS
open PySem PySem.Spec PyProof.Rows L2
section
variable {X : Cx} {E : XK} {es : List Expr} {pos : Pos}
/-- (a, b, ..) = a tuple or list of n -/
def tgSeqN (n : Nat) (g : FTgs) : FTg := fun d δ Q => match d with
  | .tup ds => ds.length = n ∧ g ds δ Q
  | .par ds => ds.length = n ∧ g ds δ Q
  | .lst ds => ds.length = n ∧ g ds δ Q
  | _ => False
theorem dtg_seqN {kk : Nat} {g : FTgs} {n : Nat} {ws : List Nat} (hc : X.calm = true) (h : DTgs X es ws g) (hn : (assignEach es X.env).length = n := by rfl) (hst : (assignEach es X.env).findIdx? (·.1) = none := by rfl) : DTg X (.Tuple es kk pos) ws (tgSeqN n g) := by
  have p1 := pg_tup (pos := pos) (k := kk) hc h hn hst
  have p2 := pg_lst (pos := pos) (k := kk) hc h hn hst
  refine ⟨fun pins s σ H v u Q I r q => ?_⟩
  obtain ⟨G, F, δ, d, Qd, eK, I', rd, hg, k⟩ := q
  cases rd with
  | tup hq ra => exact p1.run pins s σ H _ u Q I r ⟨_, _, rfl, hq.sq, by rw [ra.len]; exact hg.1, G, F, δ, _, Qd, eK, I', ra, hg.2, k⟩
  | par _ hq ra => exact p1.run pins s σ H _ u Q I r ⟨_, _, rfl, .inl (.inl hq), by rw [ra.len]; exact hg.1, G, F, δ, _, Qd, eK, I', ra, hg.2, k⟩
  | lst hq ra => exact p2.run pins s σ H _ u Q I r ⟨_, _, rfl, hq.sq, by rw [ra.len]; exact hg.1, G, F, δ, _, Qd, eK, I', ra, hg.2, k⟩
  | _ => exact hg.elim
/-- an entry of a table -/
theorem dg_tabIx {a : Expr} {x : Str} {kvs : List (Str × Int)} {fa : FX D} {p : Pos} (T : TabOk X.K X.w x kvs) (hg : Gl X x) (hm : X.mg x = some (.ref (He.ga X.K x))) (ha : DG X E a fa) (hp : PlainIx a) (hd : (x == ("__debug__" : Str)) = false := by decide) :
    DG X E (.Subscript (.Name x p) a pos) (fTabIx kvs fa) := by
  obtain ⟨⟨es', n, D'⟩, vals⟩ := T
  refine PE.imp (pe_ix ix_kdict (pe_glob hg hm (v := .ref _) rfl hd) ha hp) fun σ H Q ⟨G, F, δ, Qd, Ed, eK, I, hf, hx, k⟩ => ⟨G, F, δ, _, Ed, eK, I, hf, hx, fun d δ1 F1 H1 v q1 I1 s1 r1 => ?_⟩
  cases d with
  | str z =>
    cases r1
    dsimp only at q1
    cases e : kvs.lookup z with
    | none => rw [e] at q1; exact q1.elim
    | some i =>
      rw [e] at q1
      obtain ⟨t, e1⟩ := vals _ (lookup_mem e)
      exact ⟨_, z, .int i, rfl, rfl, ⟨es', n, _, D'.at_, D'.lit, e1, ⟨t, rfl⟩⟩, k _ δ1 F1 H1 _ q1 I1 s1 (.int _)⟩
  | _ => exact q1.elim
end

theorem room5 {k : Nat} {A : Around} (r : Room k A) : A.units + 65 < cLine := by have := r.un; omega
theorem room1 {k : Nat} {A : Around} (r : Room k A) : A.units + 1 < cLine := by have := r.un; omega
/-! ### a written table -/
def fDkC (kvs : List (Str × Int)) : FX (Bool × D) := fun _ δ Q => Q (true, .dk (kvs.map fun p => .inr p.1) (kvs.map fun p => .int p.2)) δ
abbrev dkTrs (kvs : List (Str × Int)) : List (TE × TE) := kvs.map fun p => (tC (.str p.1), tC (.int p.2))
abbrev dkKv (kvs : List (Str × Int)) : List (Key × V) := kvs.map fun p => (.inr p.1, .int p.2)
theorem dk_pairs {σ : L2.St} {H : Hp} {Q : List (V × V) → Hp → Prop} : ∀ (kvs : List (Str × Int)) , Q (kvs.map fun p => (V.str p.1, V.int p.2)) H → tPairs (dkTrs kvs) σ H Q
  | [], q => q
  | p :: kvs, q => dk_pairs (Q := fun ps H3 => Q ((V.str p.1, V.int p.2) :: ps) H3) kvs q
theorem do_dkC {X : Cx} {E : XK} {pos : Pos} {keys : List (Option Expr)} {values : List Expr} (kvs : List (Str × Int)) (h : PPs X pos keys values (dkTrs kvs)) (hall : keys.all (·.isSome) = true) (hl : keys.length = values.length) (h0 : keys ≠ [])
    (h15 : keys.length ≤ 15) (hm : mergeK [] (dkKv kvs) = dkKv kvs) (hk : kvs.length ≤ 15) : DO X E (.Dict keys values pos) (fDkC kvs) :=
  PE.imp (pe_disp h hall hl h0 h15) fun σ H Q ⟨G, F, δ, Qd, Ed, eK, I, hf, hx, k⟩ => fun p hp => dk_pairs kvs ⟨upd_same, dkKv kvs, by simp [dkKv, kV], by simpa [dkKv] using hk, by
    rw [upd_upd, hm]
    refine kont_new I (P := fun r => Qd r δ) (fun r F' H' z pp I' s' o' => k r δ F' H' z pp I' s' o') hf hp fun H' e o => ?_
    refine ⟨dkKv kvs, o, by simp [dkKv], ?_⟩
    have e1 : (dkKv kvs).map (·.2) = (kvs.map (·.2)).map V.int := by simp [dkKv]
    have e2 : kvs.map (fun p => D.int p.2) = (kvs.map (·.2)).map D.int := by simp
    rw [e1, e2]
    exact .ints⟩

section
variable {X : Cx} {E : XK} {a : Expr} {x : Str} {kvs : List (Str × Int)} {fa : FX D} {p pos : Pos}
theorem dt_tabIn (T : TabOk X.K X.w x kvs) (hg : Gl X x) (hm : X.mg x = some (.ref (He.ga X.K x))) (ha : DG X E a fa) (hd : (x == ("__debug__" : Str)) = false := by decide) (hb : behindInMarks .In (.Name x p) = false := by rfl) :
    DT X E (.Compare a [.In] [.Name x p] pos) (fTrue (fTabIn false kvs fa)) := by
  obtain ⟨⟨es, n, D⟩, vals⟩ := T
  refine PT.imp (pt_cmpR (op_in_kd D) ha (pe_glob hg hm (v := .ref _) rfl hd) hb) fun σ H Q ⟨G, F, δ, Qd, Ed, eK, I, hf, hx, k⟩ => ⟨G, F, δ, _, Ed, eK, I, hf, hx, fun d δ1 F1 H1 v q1 I1 s1 r1 => ?_⟩
  cases d with
  | str z =>
    cases r1
    dsimp only at q1
    cases e : kvs.lookup z with
    | none => rw [e] at q1; exact q1.elim
    | some i =>
      rw [e] at q1
      obtain ⟨t, e1⟩ := vals _ (lookup_mem e)
      exact ⟨z, _, rfl, rfl, e1, true, rfl, k _ δ1 F1 H1 _ q1 I1 s1 rfl⟩
  | _ => exact q1.elim
theorem dt_tabNot (T : TabOk X.K X.w x kvs) (hg : Gl X x) (hm : X.mg x = some (.ref (He.ga X.K x))) (ha : DG X E a fa) (hd : (x == ("__debug__" : Str)) = false := by decide) (hb : behindInMarks .NotIn (.Name x p) = false := by rfl) :
    DT X E (.Compare a [.NotIn] [.Name x p] pos) (fTrue (fTabIn true kvs fa)) := by
  obtain ⟨⟨es, n, D⟩, vals⟩ := T
  refine PT.imp (pt_cmpR (op_notIn_kd D) ha (pe_glob hg hm (v := .ref _) rfl hd) hb) fun σ H Q ⟨G, F, δ, Qd, Ed, eK, I, hf, hx, k⟩ => ⟨G, F, δ, _, Ed, eK, I, hf, hx, fun d δ1 F1 H1 v q1 I1 s1 r1 => ?_⟩
  cases d with
  | str z =>
    cases r1
    dsimp only at q1
    cases e : kvs.lookup z with
    | none => rw [e] at q1; exact q1.elim
    | some i =>
      rw [e] at q1
      obtain ⟨t, e1⟩ := vals _ (lookup_mem e)
      exact ⟨z, _, rfl, rfl, e1, false, rfl, k _ δ1 F1 H1 _ q1 I1 s1 rfl⟩
  | _ => exact q1.elim
end

/-! ### a, b = x, y where one of the names is a cell -/
section
variable {X : Cx} {E : XK} {a b : Expr} {pos : Pos}
theorem Res.alloc {G : Gd} {F : FS} {δ : Dst} {σ : L2.St} {H : Hp} {v : V} {r : Bool × D} {p : Addr} {o : HO} (I : Hold G F δ σ H) (hp : H p = none) (k : Res G F H σ δ v r) : Res G F (upd H p o) σ δ v r := Res.step (Stp.alloc I hp) k
theorem ds_par2 {i j : Nat} {x y : Str} {f : FX (List (Bool × D))} {px py pt : Pos} {kt k2 pt2} (hc : X.calm = true) (hN : X.N.Nodup) (hi : X.N[i]? = some x) (hj : X.N[j]? = some y)
    (hx : Loc X.env.scope x) (hy : Loc X.env.scope y) (ha : DOs X E [a, b] f)
    (fx : X.fn x = true ∨ X.env.scope.names.lookup x = some .local := by first | exact .inl rfl | exact .inr rfl) (fy : X.fn y = true ∨ X.env.scope.names.lookup y = some .local := by first | exact .inl rfl | exact .inr rfl)
    (hs : swapsWithSole [.Tuple [.Name x px, .Name y py] kt pt] (.Tuple [a, b] k2 pt2) pos.line X.env = pure false := by rfl) (hw : swappedStores [.Tuple [.Name x px, .Name y py] kt pt] (.Tuple [a, b] k2 pt2) X.env = pure none := by rfl)
    (h1 : (assignEach [.Tuple [.Name x px, .Name y py] kt pt] X.env).map (·.2) = [assign (.Tuple [.Name x px, .Name y py] kt pt) X.env] := by rfl)
    (hn : (assignEach [.Name x px, .Name y py] X.env).length = 2 := by rfl) (hst : (assignEach [.Name x px, .Name y py] X.env).findIdx? (·.1) = none := by rfl)
    (hq : (assignEach [.Name x px, .Name y py] X.env).map (·.2) = assign (.Name x px) X.env :: (assignEach [.Name y py] X.env).map (·.2) := by rfl) (hq2 : (assignEach [.Name y py] X.env).map (·.2) = assign (.Name y py) X.env :: (assignEach [] X.env).map (·.2) := by rfl) :
    DSt X E (.Assign [.Tuple [.Name x px, .Name y py] kt pt] (.Tuple [a, b] k2 pt2) pos) (sPar i j f) :=
  PS.imp (ps_asg (pe_tup ha) (pg_tup hc (pgs_cons (pg_name hN hi hx fx) (pgs_cons (pg_name hN hj hy fy) pgs_nil hq2) hq) hn hst) hs hw h1) fun D σ H ⟨G, F, δ, Dd, Ed, eK, I, hf, hx, k⟩ => ⟨G, F, δ, _, Ed, eK, I, hf, hx, fun rs δ' F' H' vs q I' e' r' => by
    obtain ⟨p, hd⟩ := r'
    match rs, vs, p, q with
    | [r, t], [v, u], .cons kr (.cons kt .nil), q =>
      refine ⟨by show 2 ≤ sizeLine; decide, fun p hp => ⟨p, [v, u], rfl, .inl (.inl upd_same), rfl, v, [u], rfl, u, [], rfl, rfl, ?_⟩⟩
      have I2 := I'.alloc (o := .tup [v, u]) hp
      have k1 : Res G F' (upd H' p (.tup [v, u])) σ δ' v r := Res.alloc I' hp kr.1
      have k2 : Res G F' (upd H' p (.tup [v, u])) σ δ' u t := Res.alloc I' hp kt.1
      exact k.nx _ F' _ _ q ((I2.put k1).put (Res.putOther k1 k2 (fun a x y e1 e2 e3 e4 => hd 0 1 a x y (by omega) (by simp [e1]) (by simp [e2]) (by simp [e3]) (by simp [e4])) I2.len))⟩
end
end DS
end
section
set_option maxRecDepth 100000
set_option maxHeartbeats 1000000
/-! DS17: the pen is made; the law's own def; the head's hook. -/
namespace DS
open PySem PySem.Spec PyProof.Rows L2
/-- the tables are empty -/
def TabE (K : KF) (H : Hp) : Prop := ∀ p ∈ TK K, H p.1 = some (.tbl #[])
/-- what is tracked, the tables aside -/
abbrev trk (K : KF) (H : Hp) : FS := fun b => H b ≠ none ∧ ∀ p ∈ TK K, p.1 ≠ b
theorem TabE.f {K : KF} {H : Hp} (h : TabE K H) : TabsF (TK K) (trk K H) H := fun p m => ⟨#[], h p m, fun f => f.2 p m rfl, trivial, fun pos cv hc => by
  have z : codeAmong pos [] = some cv := hc
  simp [codeAmong] at z⟩
def penD (ns : List Int) : D := .lst [.lst (cutD (ns.map D.int) none (some 63)), .int 0, .int 0]
/-- the def that makes the pen: from the script at a -/
def spPen2 (K : KF) : Sp := fun vs H Q _ => ∃ (a : Addr) (ns : List Int), vs = [.ref a] ∧ SqL K H a (ns.map V.int) ∧ TabE K H ∧ ∀ (F' : FS) (H' : Hp) (p : Addr), Bas ⟨K, trk K H, H, none⟩ F' H' 0 → Own ⟨K, trk K H, H, none⟩ F' H' p (penD ns) → Q (.ref p) H'
theorem rd_kl {K : KF} {H : Hp} {a : Addr} {ns : List Int} (te : TabE K H) (s : SqL K H a (ns.map V.int)) : Rep K none (trk K H) H (.ref a) (.scr ns) := by
  rcases s with (h | ⟨o, h⟩) | h
  · exact .scr (.inl ⟨⟨by rw [h]; simp, fun p m z => by have := te p m; rw [z, h] at this; cases this⟩, .inl h⟩)
  · exact .scr (.inl ⟨⟨by rw [h]; simp, fun p m z => by have := te p m; rw [z, h] at this; cases this⟩, .inr ⟨o, h⟩⟩)
  · exact .scr (.inr h)
section
variable {P : Program} {w : World} {K : KF} {mg : Str → Option Value} {base : Heap} {x : Str} {params : Arguments} {body : List Stmt} {scope : Scope} {N : List Str} {k : Nat}
theorem pen_fn {e : Expr} {pos : Pos} {f : FX (Bool × D)} (F : ∃ fd, FunD K x x params body scope [] [] (He.ga K x) fd) (S : FnScope N ["script"] scope) (hb : body = [.Return (some e) pos])
    (hw : ∀ (cdv : Value) (A : Around) (outer : List Env) (s : Shared) (H : Hp) (E : XK), Bare A → Room k (A.deeper (envOfC x scope s.heap.objs.size (He.ga K x) cdv)) → DO (cxOf (L2N.CX P w) P w K mg base N x scope (He.ga K x) cdv A outer s H E) E e f)
    (hf : ∀ (ns : List Int) (Q : Bool × D → Dst → Prop), (∀ δ : Dst, δ.n = 0 → Q (true, penD ns) δ) → f NoE (startD N [.scr ns] 0) Q) :
    ∃ fd, FunD K x x params body scope [] [] (He.ga K x) fd ∧ FnG P w K mg base (L2N.CX P w) (k + 1) (He.ga K x) fd ["script"] (spPen2 K) := by
  obtain ⟨fd, D⟩ := F
  refine ⟨fd, D, FunD.okG D S (fun vs H Q E h => ?_) fun cdv A outer s H vs Q E hg hr h => ⟨tRet (rdA K E okO f), ?_, ?_⟩⟩
  · obtain ⟨a, ns, rfl, _⟩ := h
    rfl
  · subst hb
    exact pss_one (ps_ret (hw cdv A outer s H E hg hr))
  · obtain ⟨a, ns, rfl, sq, te, fin⟩ := h
    refine ⟨⟨K, trk K H, H, none⟩, trk K H, startD N [.scr ns] 0, _, NoE, rfl, hold_start (G := ⟨K, trk K H, H, none⟩) (.cons (rd_kl te sq) .nil) (fun _ h => h.1) ⟨trivial, te.f⟩, hf ns (fun r δ => r = (true, penD ns) ∧ δ.n = 0) (fun δ h0 => ⟨rfl, h0⟩), XOk.none, fun r δ' F' H' v q I' s' o' => ?_⟩
    obtain ⟨rfl, h0⟩ := q
    obtain ⟨⟨p, rfl, own, _⟩, _⟩ := o'
    have B := I'.bas
    rw [h0] at B
    exact fin F' H' p B own
/-- the law's own def: the first row makes the pen -/
def spLaw (K : KF) : Sp := fun vs H Q _ => ∃ (a : Addr) (ns : List Int), vs = [.ref a] ∧ SqL K H a (ns.map V.int) ∧ TabE K H ∧ ∀ H', Q (.bl true) H'
theorem law_ends {E : XK} {m : FSt} {vs : List V} {H : Hp} {Q : VK} {E' : XK} (hN : 2 ≤ N.length) (hc : m NoE ⟨fun _ => False, fun d _ => d = .bl true, fun _ => False, fun _ => False⟩ ⟨none :: some (false, .pen) :: List.replicate (N.length - 2) none, 0⟩) (h : spLaw K vs H Q E') :
    tSeq (tAsg (tCall (spPen2 K) [] E (tCons (tVar 0) tNil)) (L2.gName 1)) (rdS K E m) { nx := fun _ H' => Q .non H', rt := Q } (L2.start N vs) H := by
  obtain ⟨a, ns, rfl, sq, te, fin⟩ := h
  obtain ⟨j, hj⟩ : ∃ j, N.length = j + 2 := ⟨N.length - 2, by omega⟩
  have st : L2.start N [.ref a] = some (.ref a) :: none :: List.replicate j none := by
    unfold L2.start
    rw [hj]
    rfl
  rw [st]
  refine ⟨.ref a, rfl, a, ns, rfl, sq, te, fun F' H' p B own => ?_⟩
  obtain ⟨vs, h1, h2⟩ := own.at_
  obtain ⟨v, u, z, rfl, r1, r2, r3⟩ := rep3 h2
  cases r2
  cases r3
  cases r1 with
  | @lst c ws _ c1 c2 =>
    have e63 : cutD (ns.map D.int) none (some 63) = (ns.take 63).map D.int := by
      unfold cutD
      rw [HT.sIx_none, show (some (63 : Int)) = some (((63 : Nat) : Int)) from rfl, HT.sIx_nat, List.length_map, List.drop_zero, Nat.sub_zero, ← List.map_take]
      by_cases h : 63 ≤ ns.length
      · rw [Nat.min_eq_left h]
      · rw [Nat.min_eq_right (by omega), List.take_of_length_le (by omega), List.take_of_length_le (by omega)]
    rw [e63] at c2
    rw [c2.ints_of] at c1
    have pen : PenOk (some p) F' H' 0 := ⟨own.nf, c, ns.take 63, 0, 0, h1, c1.1, .inl c1.2, by rw [List.length_take]; omega, by omega, by omega, by omega⟩
    have G2 : Bas ⟨K, F', H', some p⟩ F' H' 0 := ⟨fun _ h => h, fun _ h => .inl h, fun _ _ h _ => h, B.trk, pen, B.tab⟩
    refine ⟨⟨K, F', H', some p⟩, F', ⟨none :: some (false, .pen) :: List.replicate (N.length - 2) none, 0⟩, _, NoE, rfl, ⟨G2, ?_, fun i d h => ?_, fun i d h => ?_, fun i i' d e b _ h => ?_⟩, hc, XOk.none, ⟨fun _ _ _ _ q => q.elim, fun d n F2 H2 v q _ r => ?_, fun _ _ _ _ q => q.elim, fun _ _ _ _ q => q.elim⟩⟩
    · show _ = ((some (V.ref a) :: none :: List.replicate j none).set 1 (some (V.ref p))).length
      rw [hj]; simp
    · match i, h with
      | 0, h => cases h
      | 1, h =>
        cases h
        exact ⟨.ref p, rfl, .pen rfl⟩
      | i + 2, h =>
        have h' : (List.replicate (N.length - 2) (none : Option (Bool × D)))[i]? = some (some (false, d)) := by simpa using h
        rw [List.getElem?_replicate] at h'
        split at h' <;> cases h'
    · match i, h with
      | 0, h => cases h
      | 1, h => cases h
      | i + 2, h =>
        have h' : (List.replicate (N.length - 2) (none : Option (Bool × D)))[i]? = some (some (true, d)) := by simpa using h
        rw [List.getElem?_replicate] at h'
        split at h' <;> cases h'
    · match i, h with
      | 0, h => cases h
      | 1, h => cases h
      | i + 2, h =>
        have h' : (List.replicate (N.length - 2) (none : Option (Bool × D)))[i]? = some (some (true, d)) := by simpa using h
        rw [List.getElem?_replicate] at h'
        split at h' <;> cases h'
    · subst q
      cases r
      exact fin H2
theorem law_fn {st0 : Stmt} {rest : List Stmt} {m : FSt} (F : ∃ fd, FunD K x x params body scope [] [] (He.ga K x) fd) (S : FnScope N ["script"] scope) (hb : body = st0 :: rest) (hN : 2 ≤ N.length)
    (h0 : ∀ (cdv : Value) (A : Around) (outer : List Env) (s : Shared) (H : Hp) (E : XK), Bare A → Room k (A.deeper (envOfC x scope s.heap.objs.size (He.ga K x) cdv)) →
      PS (cxOf (L2N.CX P w) P w K mg base N x scope (He.ga K x) cdv A outer s H E) st0 (tAsg (tCall (spPen2 K) [] E (tCons (tVar 0) tNil)) (L2.gName 1)))
    (hw : ∀ (cdv : Value) (A : Around) (outer : List Env) (s : Shared) (H : Hp) (E : XK), Bare A → Room k (A.deeper (envOfC x scope s.heap.objs.size (He.ga K x) cdv)) → DSs (cxOf (L2N.CX P w) P w K mg base N x scope (He.ga K x) cdv A outer s H E) E rest m)
    (hc : m NoE ⟨fun _ => False, fun d _ => d = .bl true, fun _ => False, fun _ => False⟩ ⟨none :: some (false, .pen) :: List.replicate (N.length - 2) none, 0⟩) :
    ∃ fd, FunD K x x params body scope [] [] (He.ga K x) fd ∧ FnG P w K mg base (L2N.CX P w) (k + 1) (He.ga K x) fd ["script"] (spLaw K) := by
  obtain ⟨fd, FD⟩ := F
  refine ⟨fd, FD, FunD.okG FD S (fun vs H Q E h => ?_) fun cdv A outer s H vs Q E hg hr h => ⟨tSeq (tAsg (tCall (spPen2 K) [] E (tCons (tVar 0) tNil)) (L2.gName 1)) (rdS K E m), ?_, ?_⟩⟩
  · obtain ⟨a, ns, rfl, _⟩ := h
    rfl
  · subst hb
    exact pss_cons (h0 cdv A outer s H E hg hr) (hw cdv A outer s H E hg hr)
  · exact law_ends hN hc h
end

/-! ### the head: facts, tables, and a test of one's own -/
abbrev AlX : Type := He.AlT × Bool
def obsX (n : Nat) (fa : List He.Fa) (fn : List He.DefD) (ts : List He.Tab) (vb : KF → Bool) (g : Addr → Option Obj) : AlX := (He.obsTG n fa fn ts g, vb (He.frG g (He.asD g n)))
def SaysX (fa : List He.Fa) (fn : List He.DefD) (ts : List He.Tab) (vb : KF → Bool) (w : World) (K : KF) : Prop := He.SaysT fa fn ts w K ∧ vb K = true
def hookX (n : Nat) (fa : List He.Fa) (fn : List He.DefD) (ts : List He.Tab) (vb : KF → Bool) : PySem.W.Hook where
  α := AlX
  obs := fun s => obsX n fa fn ts vb s.heap.get?
  val := fun w => (He.valT fn ts w, true)
  says := fun w h => ∃ K : KF, K.In h ∧ SaysX fa fn ts vb w K
  of := fun _ _ e => ⟨_, He.frG_in, congrArg (fun z : AlX => z.1) e, congrArg (fun z : AlX => z.2) e⟩
  keeps := fun _ _ _ ⟨K, hK, c⟩ k => ⟨K, PySem.W.Frag.In.keeps hK k, c⟩
theorem obsX_eq {n : Nat} {fa : List He.Fa} {fn : List He.DefD} {ts : List He.Tab} {vb : KF → Bool} {g : Addr → Option Obj} {s : Shared} (h : ∀ a, g a = s.heap.get? a) : obsX n fa fn ts vb g = (hookX n fa fn ts vb).obs s := by
  have e : g = s.heap.get? := funext h
  rw [e]
  rfl
theorem tab_ok {fa : List He.Fa} {fn : List He.DefD} {ts : List He.Tab} {w : World} {K : KF} {x : Str} {kvs : List (Str × Int)} (c : He.SaysT fa fn ts w K) (i : Nat) (ks : List Str) (h : ts[i]? = some (fun K => He.ga K x, ks)) (v : He.valsB K (He.ga K x) (kvs.map fun p => (p.1, .int p.2)) = true) : TabOk K w x kvs := by
  obtain ⟨es, n, D⟩ := c.tab i h
  refine ⟨⟨es, n, D⟩, fun q hq => ?_⟩
  obtain ⟨u, e1, e2⟩ := He.valsB_ok v (q := (q.1, .int q.2)) (List.mem_map.mpr ⟨q, hq, rfl⟩)
  obtain ⟨t, rfl⟩ := e2
  exact ⟨t, e1⟩
end DS
end
section
set_option maxRecDepth 100000
set_option maxHeartbeats 1000000
/-! DS18: pure data: comprehensions, loops. -/
namespace DS
open PySem PySem.Spec PyProof.Rows L2
/-- [f x for x in items if p x], nothing drawn -/
theorem lc_pure {tg : FTg} {tt : FX Bool} {te : FX D} {vs : List Nat} (δ0 : Dst) (f : D → D) (p : D → Bool) : ∀ (items acc : List D) (δ : Dst) (Q : List D → Dst → Prop), wipeD δ vs = δ0 →
    (∀ x ∈ items, ∀ (K : D → Dst → Prop) (K' : Dst → Prop), (p x = true → ∀ δ', wipeD δ' vs = δ0 → K (f x) δ') → (p x = false → ∀ δ', wipeD δ' vs = δ0 → K' δ') → tg x δ0 fun δ1 => tt NoE δ1 fun b δ2 => match b with
      | true => te NoE δ2 K
      | false => K' δ2) → acc.length + items.length ≤ sizeLine → (∀ δ', wipeD δ' vs = δ0 → Q (acc ++ (items.filter p).map f) δ') → lcL tg tt te vs items acc δ Q
  | [], acc, δ, Q, h, _, _, fin => by
    have := fin δ h
    simpa [lcL] using this
  | x :: r, acc, δ, Q, h, step, len, fin => by
    unfold lcL
    rw [h]
    rw [List.length_cons] at len
    refine step x (List.mem_cons_self ..) _ _ (fun hp δ' h' => ⟨by omega, ?_⟩) fun hp δ' h' => ?_
    · refine lc_pure δ0 f p r (acc ++ [f x]) δ' Q h' (fun y hy => step y (List.mem_cons_of_mem _ hy)) (by rw [List.length_append, List.length_singleton]; omega) fun δ2 h2 => ?_
      have := fin δ2 h2
      rwa [List.filter_cons, if_pos hp, List.map_cons, ← List.singleton_append, ← List.append_assoc] at this
    · refine lc_pure δ0 f p r acc δ' Q h' (fun y hy => step y (List.mem_cons_of_mem _ hy)) (by omega) fun δ2 h2 => ?_
      have := fin δ2 h2
      rwa [List.filter_cons, if_neg (by rw [hp]; exact Bool.false_ne_true)] at this
theorem take_cut (xs : List D) (k : Nat) : cutD xs none (some (k : Int)) = xs.take k := by
  unfold cutD
  rw [HT.sIx_none, HT.sIx_nat, List.drop_zero, Nat.sub_zero]
  by_cases h : k ≤ xs.length
  · rw [Nat.min_eq_left h]
  · rw [Nat.min_eq_right (by omega), List.take_of_length_le (Nat.le_refl _), List.take_of_length_le (by omega)]
theorem pen_pure (ns : List Int) (Q : Bool × D → Dst → Prop) (h : ∀ δ : Dst, δ.n = 0 → Q (true, penD ns) δ) :
    (fLst (aCons (fG (fLc (fSeq (fG (fSl (hName 0) fNoP (fPart (gC (.int 63)))))) (tgName 1) fYes (fG (fCall gInt1 (aCons (hName 1) aNil))) [1])) (aCons (gC (.int 0)) (aCons (gC (.int 0)) aNil)))) NoE (startD ["script", "cell"] [.scr ns] 0) Q := by
  have e0 : startD ["script", "cell"] [.scr ns] 0 = ⟨[some (false, .scr ns), none], 0⟩ := rfl
  rw [e0]
  show lcL (tgName 1) fYes (fG (fCall gInt1 (aCons (hName 1) aNil))) [1] (cutD (ns.map D.int) none (some 63)) [] ⟨[some (false, .scr ns), none], 0⟩ _
  have ec : cutD (ns.map D.int) none (some 63) = (ns.take 63).map D.int := by rw [show (some (63 : Int)) = some (((63 : Nat) : Int)) from rfl, take_cut, ← List.map_take]
  have ep : penD ns = .lst [.lst ((ns.take 63).map D.int), .int 0, .int 0] := by unfold penD; rw [ec]
  rw [ec]
  have fl : ((ns.take 63).map D.int).filter (fun _ => true) = (ns.take 63).map D.int := List.filter_eq_self.mpr fun _ _ => rfl
  have l63 : ((ns.take 63).map D.int).length ≤ 63 := by rw [List.length_map, List.length_take]; omega
  refine lc_pure ⟨[some (false, .scr ns), none], 0⟩ (fun x => x) (fun _ => true) _ [] _ _ rfl (fun x hx K K' hK _ => ?_) (by rw [List.length_nil, sizeLine_eq]; omega) fun δ' h' => ?_
  · obtain ⟨i, _, rfl⟩ := List.mem_map.mp hx
    exact hK rfl _ rfl
  · rw [fl, List.map_id', List.nil_append]
    refine ⟨by show 3 ≤ sizeLine; decide, ?_⟩
    have hn : δ'.n = 0 := by
      have := congrArg Dst.n h'
      rwa [wipeD_n] at this
    have := h (restore ⟨[some (false, .scr ns), none], 0⟩ (wipeD δ' [1]) [1]) (by rw [restore_n, wipeD_n]; exact hn)
    rwa [ep] at this

theorem FunD.uniq {K : KF} {x qual : Str} {params : Arguments} {body : List Stmt} {scope : Scope} {dvs : List V} {kws : List (Str × V)} {f : Addr} {fd fd2 : FuncData} (a : FunD K x qual params body scope dvs kws f fd) (b : FunD K x qual params body scope dvs kws f fd2) : fd2 = fd := by
  obtain ⟨_, _, _, _, _, _, _, _, _, _, _, h1, _⟩ := a.ex
  obtain ⟨_, _, _, _, _, _, _, _, _, _, _, h2, _⟩ := b.ex
  rw [h1] at h2
  have := congrArg Obj.data (Option.some.inj h2)
  exact (Data.func.inj this).symm
end DS
end
section
set_option maxRecDepth 100000
set_option maxHeartbeats 1000000
/-! DS19: a chained comparison as a test. -/
namespace DS
open PySem PySem.Spec PyProof.Rows L2
section
variable {X : Cx} {E : XK} {e a b c : Expr} {es : List Expr} {pos : Pos}
theorem rd_chain {ta tb tc : FX Hd} {r r' : R2} {g g' : D → D → (Bool × D → Prop) → Prop} (hs : OpS X r g) (hs' : OpS X r' g') {σ : L2.St} {H : Hp} {Q : VK} (h : rdA X.K E okG (fChain g g' ta tb tc) σ H Q) :
    tChain r r' (rdA X.K E okH ta) (rdA X.K E okH tb) (rdA X.K E okH tc) σ H Q := by
    obtain ⟨G, F, δ, Qd, Ed, eK, I, hf, hx, k⟩ := h
    refine ⟨G, F, δ, _, Ed, eK, I, hf, hx, fun x δ1 F1 H1 v q1 I1 e1 r1 => ⟨G, F1, δ1, _, Ed, eK, I1, q1, hx, fun y δ2 F2 H2 u q2 I2 e2 r2 => ?_⟩⟩
    unfold with2 at q2
    split at q2
    · rename_i dx dy h1 h2
      refine hs G F2 δ2 σ H2 v u dx dy _ _ eK I2 (HdOk.vw I2 (HdOk.ext e2.ext r1) h1) (HdOk.vw I2 r2 h2) q2 fun rr F' H' z p I' s' o' => ?_
      obtain ⟨F3, I3, e3, r3⟩ := Res.giveS I2 s' I' o'.1 o'.2
      obtain ⟨bb, d⟩ := rr
      cases d with
      | bl c' =>
        cases r3
        refine ⟨c', rfl, ?_⟩
        cases c' with
        | false => exact k (.bl false) δ2 F3 H' _ p I3 ((e1.trans e2).trans e3) (.bl false)
        | true =>
          refine ⟨G, F3, δ2, _, Ed, eK, I3, p, hx, fun w δ4 F4 H4 v4 q4 I4 e4 r4 => ?_⟩
          unfold with2 at q4
          split at q4
          · rename_i dy' dz h3 h4
            refine hs' G F4 δ4 σ H4 u v4 dy' dz _ Q eK I4 (HdOk.vw I4 (HdOk.ext (e3.trans e4).ext r2) h3) (HdOk.vw I4 r4 h4) q4 fun rr F5 H5 z5 p5 I5 s5 o5 => ?_
            obtain ⟨F6, I6, e6, r6⟩ := Res.giveS I4 s5 I5 o5.1 o5.2
            exact k rr.2 δ4 F6 H5 z5 p5 I6 ((((e1.trans e2).trans e3).trans e4).trans e6) r6
          · exact q4.elim
      | _ => exact p.elim
    · exact q2.elim
/-- a chained comparison as a test -/
def tChain2 (g g' : D → D → (Bool × D → Prop) → Prop) (fa fb fc : FX Hd) : FX Bool := fun Ed δ Q => fChain g g' fa fb fc Ed δ fun r δ' => match r with
  | .bl c => Q c δ'
  | _ => False
theorem dt_chain {op op' : CmpOp} {r r' : R2} {g g' : D → D → (Bool × D → Prop) → Prop} {fa fb fc : FX Hd} (ho : OpR X (compareOp op) r) (ho' : OpR X (compareOp op') r') (hs : OpS X r g) (hs' : OpS X r' g') (ha : DH X E a fa) (hb : DH X E b fb) (hc : DH X E c fc)
    (hm : lastMarks [op, op'] [b, c] = false := by with_unfolding_all rfl) : DT X E (.Compare a [op, op'] [b, c] pos) (tChain2 g g' fa fb fc) :=
  PT.imp (pt_chain ho ho' ha hb hc hm) fun σ H Q ⟨G, F, δ, Qd, Ed, eK, I, hf, hx, k⟩ => by
    refine rd_chain hs hs' ⟨G, F, δ, fun r δ' => (match r with | .bl c => Qd c δ' | _ => False), Ed, eK, I, hf, hx, fun r δ' F' H' v q I' e' r' => ?_⟩
    cases r with
    | bl c => cases r'; exact ⟨c, rfl, k c δ' F' H' c q I' e' rfl⟩
    | _ => exact q.elim
end
end DS
end
section
set_option maxRecDepth 100000
set_option maxHeartbeats 1000000
/-! DS20: repr of great integers; the head's hook with the interpreter's own statics. -/
namespace DS
open PySem PySem.Spec PyProof.Rows L2
/-- no other number of digits was set -/
def digB (K : KF) : Bool := PySem.W.nsOkIn K cStatics && (match PySem.W.nsIn K cStatics "sys.int_max_str_digits" with | some none => true | _ => false)
theorem dig_of {K : KF} {h : Heap} (e : digB K = true) (X : K.In h) : h.NoDigits := by
  unfold digB at e
  obtain ⟨e1, e2⟩ := Bool.and_eq_true_iff.mp e
  have e3 : PySem.W.nsIn K cStatics "sys.int_max_str_digits" = some none := by
    split at e2
    · assumption
    · cases e2
  exact ⟨_, .of_isNs (PySem.W.isNs_of_in X e1), PySem.W.nsMap_none_of_in X e1 e3⟩
def obsX2 (n : Nat) (fa : List He.Fa) (fn : List He.DefD) (ts : List He.Tab) (vb : KF → Bool) (g : Addr → Option Obj) : AlX := (He.obsT fa fn ts (He.frG g (He.asD g n ++ [cStatics])), vb (He.frG g (He.asD g n ++ [cStatics])))
def hookX2 (n : Nat) (fa : List He.Fa) (fn : List He.DefD) (ts : List He.Tab) (vb : KF → Bool) : PySem.W.Hook where
  α := AlX
  obs := fun s => obsX2 n fa fn ts vb s.heap.get?
  val := fun w => (He.valT fn ts w, true)
  says := fun w h => ∃ K : KF, K.In h ∧ SaysX fa fn ts vb w K
  of := fun _ _ e => ⟨_, He.frG_in, congrArg (fun z : AlX => z.1) e, congrArg (fun z : AlX => z.2) e⟩
  keeps := fun _ _ _ ⟨K, hK, c⟩ k => ⟨K, PySem.W.Frag.In.keeps hK k, c⟩
theorem obsX2_eq {n : Nat} {fa : List He.Fa} {fn : List He.DefD} {ts : List He.Tab} {vb : KF → Bool} {g : Addr → Option Obj} {s : Shared} (h : ∀ a, g a = s.heap.get? a) : obsX2 n fa fn ts vb g = (hookX2 n fa fn ts vb).obs s := by
  have e : g = s.heap.get? := funext h
  rw [e]
  rfl
section
variable {prog : Program} {w : World} {A : Around} {E : Value → Shared → Prop} {s : Shared} {a : Int} {t : Tok}
set_option maxRecDepth 100000 in
theorem repr_big {Q : Value → Shared → Prop} (hh : A.handled = none) (hn : s.heap.NoDigits) (ha : a.natAbs.log2 < 12900)
    (h1 : Q (.str (toString a) s.toks) { s with toks := s.toks + 1 }) : wpAny (model prog w) A (call (.builtin "repr") [.int a t]) Q E s := by
  have lt : a.natAbs < 10 ^ 4300 := Nat.lt_of_lt_of_le (PyProof.Rows.lt_of_log2 ha) pow_lo
  refine Calls.call_function_entry F.kind_repr F.plain_repr F.entry_repr (F.args_repr1 _) ?_
  unfold Builtin.«repr»
  refine wpAny_bind (wpAny_pure ?_)
  have hv : [Value.int a t].any Value.onHeap = false := rfl
  simp only [cRoomFor, hv, Bool.false_eq_true, if_false, pure_bind]
  refine wpAny_bind (wpAny_specialOf (name := Str.ofString "__repr__") (typeIs_int s a t) F.slot_int_repr.lookup ?_)
  refine wpAny_bind (m := callSpecialIfBound? (.int a t) (Str.ofString "__repr__")) (wpAny_callSpecialIfBound?_slot (name := Str.ofString "__repr__") (typeIs_int s a t) F.slot_int_repr
    (call_int_repr_or (by first | exact hh | assumption) hn (fun _ => ?_) fun hge => absurd lt (Nat.not_lt.mpr hge)))
  refine wpAny_bind (wpAny_isInstance (T := "str") (b := true) rfl isSubtype_str_str ?_)
  exact wpAny_pure ⟨_, rfl, h1⟩
end
section
variable {X : Cx}
abbrev Dig (X : Cx) : Prop := X.calm = true ∧ ∀ h : Heap, X.K.In h → h.NoDigits
theorem call_repr_big (hd : Dig X) : CallR X (.builtin "repr") (fun xs H Q => ∃ i, xs = [.int i] ∧ i.natAbs.log2 < 12900 ∧ Q (.str (toString i)) H) := by
  intro pins s σ H xs us Q I r h
  obtain ⟨i, rfl, hz, q⟩ := h
  obtain ⟨u, rfl, t, rfl⟩ := vals1 r
  exact repr_big (I.ok.hd hd.1) (hd.2 _ I.kIn) hz ⟨.str _, H, I.tok _, ⟨_, rfl⟩, q⟩
def gReprB : List D → (Bool × D → Prop) → Prop
  | [.lst xs], P => ((D.lst xs).ok = true ∧ (D.lst xs).py.showable = true ∧ (D.lst xs).py.shown.length ≤ sizeLine) ∧ P (false, .str (D.lst xs).py.shown)
  | [.tup xs], P => ((D.tup xs).ok = true ∧ (D.tup xs).py.showable = true ∧ (D.tup xs).py.shown.length ≤ sizeLine) ∧ P (false, .str (D.tup xs).py.shown)
  | [.int i], P => i.natAbs.log2 < 12900 ∧ P (false, .str (toString i))
  | [.str x], P => (reprText x).length ≤ sizeLine ∧ P (false, .str (reprText x))
  | _, _ => False
abbrev rReprB (K : KF) : List V → Hp → VK → Prop := rOrC (rRepr K) (rOrC (fun xs H Q => ∃ i, xs = [.int i] ∧ i.natAbs.log2 < 12900 ∧ Q (.str (toString i)) H) (fun xs H Q => ∃ x, xs = [.str x] ∧ (reprText x).length ≤ sizeLine ∧ Q (.str (reprText x)) H))
theorem call_reprB (hd : Dig X) (hg : Bare X.A) (hu : X.A.units + 65 < cLine) : CallR X (.builtin "repr") (rReprB X.K) := callOr (call_reprD0 hg hu) (callOr (call_repr_big hd) call_repr_str)
theorem cs_reprB : CallS X (rReprB X.K) gReprB := by
  intro G F δ σ H vs xs P Q eK I hv g k
  unfold gReprB at g
  split at g
  · obtain ⟨⟨g1, g2, g3⟩, g⟩ := g
    obtain ⟨v, rfl, h1⟩ := vals1D hv
    obtain ⟨p1, p2⟩ := D.ok_iff g1
    have dp := Vw.dp h1 p1
    rw [eK] at dp
    obtain ⟨a, us, rfl, _⟩ := h1
    exact .inl ⟨a, _, rfl, dp, py_nodict _, SeqAt.depth_of_shaped p2, g2, g3, kont_flat I k g (.str _)⟩
  · obtain ⟨⟨g1, g2, g3⟩, g⟩ := g
    obtain ⟨v, rfl, h1⟩ := vals1D hv
    obtain ⟨p1, p2⟩ := D.ok_iff g1
    have dp := Vw.dp h1 p1
    rw [eK] at dp
    rename_i as
    cases (show Rep G.K G.pa F H v (.tup as) from h1) with
    | tup => exact .inl ⟨_, _, rfl, dp, py_nodict _, SeqAt.depth_of_shaped p2, g2, g3, kont_flat I k g (.str _)⟩
  · obtain ⟨v, rfl, h1⟩ := vals1D hv
    cases h1
    exact .inr (.inl ⟨_, rfl, g.1, kont_flat I k g.2 (.str _)⟩)
  · obtain ⟨v, rfl, h1⟩ := vals1D hv
    cases h1
    exact .inr (.inr ⟨_, rfl, g.1, kont_flat I k g.2 (.str _)⟩)
  · exact g.elim
end
end DS
end
section
set_option maxRecDepth 100000
set_option maxHeartbeats 1000000
/-! DN1: nests as trees, how data tells them. -/
namespace DS
open PySem PySem.Spec PyProof.Rows L2
inductive Nest where
  | leaf (i : Int)
  | node (w : Str) (cs : List Nest)
namespace Nest
mutual
def enc : Nest → D
  | .leaf i => .int i
  | .node w cs => .tup [.str w, .tup (encL cs)]
def encL : List Nest → List D
  | [] => []
  | c :: cs => c.enc :: encL cs
end
mutual
/-- the datum tells the nest: lists or tuples at each level -/
def Told : Nest → D → Prop
  | .leaf i, d => d = .int i
  | .node w cs, d => ∃ kids c, (d = .tup [.str w, c] ∨ d = .lst [.str w, c]) ∧ (c = .tup kids ∨ c = .lst kids) ∧ ToldL cs kids
def ToldL : List Nest → List D → Prop
  | [], ds => ds = []
  | c :: cs, ds => ∃ d r, ds = d :: r ∧ Told c d ∧ ToldL cs r
end
mutual
def lvs : Nest → List Int
  | .leaf i => [i]
  | .node _ cs => lvsL cs
def lvsL : List Nest → List Int
  | [] => []
  | c :: cs => c.lvs ++ lvsL cs
end
mutual
def shp : Nest → D
  | .leaf _ => .non
  | .node w cs => .tup [.str w, .tup (shpL cs)]
def shpL : List Nest → List D
  | [] => []
  | c :: cs => c.shp :: shpL cs
end
mutual
def size : Nest → Nat
  | .leaf _ => 1
  | .node _ cs => 1 + sizeL cs
def sizeL : List Nest → Nat
  | [] => 0
  | c :: cs => c.size + sizeL cs
end
mutual
def ht : Nest → Nat
  | .leaf _ => 0
  | .node _ cs => 1 + htL cs
def htL : List Nest → Nat
  | [] => 0
  | c :: cs => max c.ht (htL cs)
end
def least (w : Str) : Nat := if w = "wheel" then 5 else if w = "round" then 3 else 2
def words : List Str := ["row", "bag", "round", "wheel"]
mutual
/-- a nest whose words, counts and likenesses are right; at most 20 at each level -/
def Good : Nest → Prop
  | .leaf _ => True
  | .node w cs => w ∈ words ∧ least w ≤ cs.length ∧ cs.length ≤ 20 ∧ (w ≠ "row" → ∃ s, ∀ d ∈ shpL cs, d = s) ∧ GoodL cs
def GoodL : List Nest → Prop
  | [] => True
  | c :: cs => c.Good ∧ GoodL cs
end
theorem encL_map : ∀ cs, encL cs = cs.map enc
  | [] => by simp [encL]
  | c :: cs => by simp [encL, encL_map cs]
theorem shpL_map : ∀ cs, shpL cs = cs.map shp
  | [] => by simp [shpL]
  | c :: cs => by simp [shpL, shpL_map cs]
theorem lvsL_flat : ∀ cs, lvsL cs = (cs.map lvs).flatten
  | [] => by simp [lvsL]
  | c :: cs => by simp [lvsL, lvsL_flat cs]
theorem sizeL_sum : ∀ cs, sizeL cs = (cs.map size).sum
  | [] => by simp [sizeL]
  | c :: cs => by simp [sizeL, sizeL_sum cs]
theorem goodL_all : ∀ cs, GoodL cs ↔ ∀ c ∈ cs, c.Good
  | [] => by simp [GoodL]
  | c :: cs => by simp [GoodL, goodL_all cs]
theorem htL_le : ∀ {cs : List Nest} {c : Nest}, c ∈ cs → c.ht ≤ htL cs
  | [], _, h => by simp at h
  | x :: cs, c, h => by
    rcases List.mem_cons.mp h with rfl | h
    · simp only [htL]; exact Nat.le_max_left _ _
    · simp only [htL]; exact Nat.le_trans (htL_le h) (Nat.le_max_right _ _)
theorem toldL_len : ∀ {cs : List Nest} {ds : List D}, ToldL cs ds → ds.length = cs.length
  | [], _, h => by simp [ToldL] at h; simp [h]
  | c :: cs, _, h => by
    obtain ⟨d, r, rfl, _, h2⟩ := by simpa only [ToldL] using h
    simp [toldL_len h2]
mutual
theorem told_enc : ∀ t : Nest, Told t t.enc
  | .leaf i => by simp [Told, enc]
  | .node w cs => by simp only [Told, enc]; exact ⟨_, _, .inl rfl, .inl rfl, toldL_enc cs⟩
theorem toldL_enc : ∀ cs : List Nest, ToldL cs (encL cs)
  | [] => by simp [ToldL, encL]
  | c :: cs => by simp only [ToldL, encL]; exact ⟨_, _, rfl, told_enc c, toldL_enc cs⟩
end
theorem toldL_get : ∀ {cs : List Nest} {ds : List D}, ToldL cs ds → ∀ d ∈ ds, ∃ c ∈ cs, Told c d
  | [], _, h, d, hd => by simp [ToldL] at h; subst h; simp at hd
  | c :: cs, _, h, d, hd => by
    obtain ⟨e, r, rfl, h1, h2⟩ := by simpa only [ToldL] using h
    rcases List.mem_cons.mp hd with rfl | hd
    · exact ⟨c, List.mem_cons_self .., h1⟩
    · obtain ⟨x, hx, tx⟩ := toldL_get h2 d hd
      exact ⟨x, List.mem_cons_of_mem _ hx, tx⟩
theorem toldL_pairs : ∀ {cs : List Nest} {ds : List D}, ToldL cs ds → ∃ ps : List (Nest × D), cs = ps.map (·.1) ∧ ds = ps.map (·.2) ∧ ∀ p ∈ ps, Told p.1 p.2
  | [], _, h => by simp [ToldL] at h; subst h; exact ⟨[], rfl, rfl, by simp⟩
  | c :: cs, _, h => by
    obtain ⟨e, r, rfl, h1, h2⟩ := by simpa only [ToldL] using h
    obtain ⟨ps, q1, q2, q3⟩ := toldL_pairs h2
    exact ⟨(c, e) :: ps, by simp [q1], by simp [q2], fun p hp => (List.mem_cons.mp hp).elim (fun z => z ▸ h1) (q3 p)⟩
theorem toldL_append : ∀ {cs cs' : List Nest} {ds ds' : List D}, ToldL cs ds → ToldL cs' ds' → ToldL (cs ++ cs') (ds ++ ds')
  | [], _, _, _, h, h' => by simp [ToldL] at h; subst h; simpa using h'
  | c :: cs, _, _, _, h, h' => by
    obtain ⟨d, r, rfl, h1, h2⟩ := by simpa only [ToldL] using h
    simp only [List.cons_append, ToldL]
    exact ⟨_, _, rfl, h1, toldL_append h2 h'⟩
mutual
/-- at least one leaf; at most twice as many parts as leaves, less one -/
theorem size_le : ∀ t : Nest, t.Good → 1 ≤ t.lvs.length ∧ t.size + 1 ≤ 2 * t.lvs.length ∧ t.ht + 1 ≤ t.lvs.length
  | .leaf i, _ => by simp [lvs, size, ht]
  | .node w cs, h => by
    simp only [Good] at h
    obtain ⟨_, h2, _, _, h5⟩ := h
    have := sizeL_le cs h5
    have h6 : 2 ≤ cs.length := by
      refine Nat.le_trans ?_ h2
      unfold least; split
      · omega
      · split <;> omega
    simp only [lvs, size, ht]
    omega
theorem sizeL_le : ∀ cs : List Nest, GoodL cs → cs.length ≤ (lvsL cs).length ∧ sizeL cs + cs.length ≤ 2 * (lvsL cs).length ∧ htL cs + cs.length ≤ (lvsL cs).length
  | [], _ => by simp [lvsL, sizeL, htL]
  | c :: cs, h => by
    simp only [GoodL] at h
    have h1 := size_le c h.1
    have h2 := sizeL_le cs h.2
    simp only [lvsL, sizeL, htL, List.length_append, List.length_cons]
    refine ⟨by omega, by omega, ?_⟩
    have : max c.ht (htL cs) ≤ c.ht + htL cs := by omega
    omega
end
end Nest
end DS
end
section
set_option maxRecDepth 100000
set_option maxHeartbeats 1000000
/-! DN2: readings unfolded. -/
namespace DS
open PySem PySem.Spec PyProof.Rows L2
/-- ends of a call: only a return -/
abbrev rtE (Q : D → Nat → Prop) : DEn := ⟨fun δ => Q .non δ.n, Q, fun _ => False, fun _ => False⟩
end DS
namespace DS
open PySem PySem.Spec PyProof.Rows L2
/-! ### data that may be compared -/
structure Lay (k : Nat) (d : D) : Prop where
  pl : d.plain = true
  ly : d.py.canLay0 = true
  dp : d.py.depth ≤ k
theorem Lay.ok {k : Nat} {d : D} (h : Lay k d) (hk : k ≤ 64 := by decide) : d.ok = true := by
  unfold D.ok SeqAt.shaped
  simp [h.pl, h.ly, Nat.le_trans h.dp hk]
theorem Lay.mono {j k : Nat} {d : D} (h : Lay j d) (hk : j ≤ k) : Lay k d := ⟨h.pl, h.ly, Nat.le_trans h.dp hk⟩
theorem Lay.int {k : Nat} (i : Int) : Lay k (.int i) := ⟨by simp [D.plain], by simp [D.py, PyData.canLay0], by simp [D.py, PyData.depth]⟩
theorem Lay.bl {k : Nat} (i : Bool) : Lay k (.bl i) := ⟨by simp [D.plain], by simp [D.py, PyData.canLay0], by simp [D.py, PyData.depth]⟩
theorem Lay.non {k : Nat} : Lay k .non := ⟨by simp [D.plain], by simp [D.py, PyData.canLay0], by simp [D.py, PyData.depth]⟩
theorem Lay.str {k : Nat} {x : Str} (h : PyData.strOk x = true) : Lay k (.str x) := ⟨by simp [D.plain], by simp [D.py, PyData.canLay0, h], by simp [D.py, PyData.depth]⟩
theorem layL {k : Nat} : ∀ {xs : List D}, (∀ x ∈ xs, Lay k x) → D.plainL xs = true ∧ PyData.canLayAll0 (D.pyL xs) = true ∧ PyData.depthAll (D.pyL xs) ≤ k
  | [], _ => by simp [D.plainL, D.pyL, PyData.canLayAll0, PyData.depthAll]
  | x :: xs, h => by
    obtain ⟨a, b, c⟩ := layL fun y hy => h y (List.mem_cons_of_mem _ hy)
    have hx := h x (List.mem_cons_self ..)
    refine ⟨by simp [D.plainL, a, hx.pl], by simp [D.pyL, PyData.canLayAll0, b, hx.ly], ?_⟩
    simp only [D.pyL, PyData.depthAll]
    exact Nat.max_le.mpr ⟨hx.dp, c⟩
theorem Lay.lst {k : Nat} {xs : List D} (h : ∀ x ∈ xs, Lay k x) : Lay (k + 1) (.lst xs) := by
  obtain ⟨a, b, c⟩ := layL h
  exact ⟨by simpa [D.plain] using a, by simpa [D.py, PyData.canLay0] using b, by simpa [D.py, PyData.depth] using c⟩
theorem Lay.tup {k : Nat} {xs : List D} (h : ∀ x ∈ xs, Lay k x) : Lay (k + 1) (.tup xs) := by
  obtain ⟨a, b, c⟩ := layL h
  exact ⟨by simpa [D.plain] using a, by simpa [D.py, PyData.canLay0] using b, by simpa [D.py, PyData.depth] using c⟩
theorem Lay.ints {k : Nat} (ns : List Int) : ∀ x ∈ ns.map D.int, Lay k x := fun x hx => by
  obtain ⟨i, _, rfl⟩ := List.mem_map.mp hx
  exact .int i
mutual
theorem eqv_self : ∀ d : D, d.plain = true → PyData.eqv d.py d.py = true
  | .non, _ => by simp [D.py, PyData.eqv]
  | .bl b, _ => by simp [D.py, PyData.eqv]
  | .int b, _ => by simp [D.py, PyData.eqv]
  | .str b, _ => by simp [D.py, PyData.eqv]
  | .lst xs, h => by simp only [D.py, PyData.eqv]; exact eqv_selfL xs (by simpa [D.plain] using h)
  | .tup xs, h => by simp only [D.py, PyData.eqv]; exact eqv_selfL xs (by simpa [D.plain] using h)
  | .ins _ _ _, h => by simp [D.plain] at h
  | .dk _ _, h => by simp [D.plain] at h
  | .dt _ _, h => by simp [D.plain] at h
  | .ty _, h => by simp [D.plain] at h
  | .cls _, h => by simp [D.plain] at h
  | .scr _, h => by simp [D.plain] at h
  | .pen, h => by simp [D.plain] at h
  | .exc _ _ _, h => by simp [D.plain] at h
  | .par _, h => by simp [D.plain] at h
theorem eqv_selfL : ∀ ds : List D, D.plainL ds = true → PyData.eqvAll (D.pyL ds) (D.pyL ds) = true
  | [], _ => by simp [D.pyL, PyData.eqvAll]
  | d :: ds, h => by
    simp only [D.plainL, Bool.and_eq_true] at h
    simp only [D.pyL, PyData.eqvAll, eqv_self d h.1, eqv_selfL ds h.2, Bool.and_self]
end
theorem Lay.eqv {k : Nat} {d : D} (h : Lay k d) : d.eqv d = true := eqv_self d h.pl
theorem eqv_int (i j : Int) : (D.int i).eqv (.int j) = decide (i = j) := by
  simp only [D.eqv, D.py, PyData.eqv]
  by_cases h : i = j <;> simp [h]
theorem eqv_str (i j : Str) : (D.str i).eqv (.str j) = decide (i = j) := by
  simp only [D.eqv, D.py, PyData.eqv]
  by_cases h : i = j <;> simp [h]
/-! ### data that may be shown -/
structure Shw (b : Nat) (d : D) : Prop where
  ok : d.py.showable = true
  len : d.py.shown.length ≤ b
theorem Shw.mono {j k : Nat} {d : D} (h : Shw j d) (hk : j ≤ k) : Shw k d := ⟨h.ok, Nat.le_trans h.len hk⟩
theorem Shw.int {b : Nat} {i : Int} (hb : b < 1920) (h : i.natAbs.log2 < b) : Shw (b + 1) (.int i) := by
  refine ⟨?_, ?_⟩
  · simp only [D.py, PyData.showable, decide_eq_true_eq]; omega
  · simp only [D.py, PyData.shown]
    have e := int_text_length_le (k := b) (by omega) h
    show (Str.ofString (toString i)).length ≤ _
    rw [PySem.ofString_length]; exact e
theorem shwL {b : Nat} : ∀ {xs : List D}, (∀ x ∈ xs, Shw b x) → PyData.showableAll (D.pyL xs) = true ∧ piled (PyData.shownAll (D.pyL xs)) ≤ xs.length * (b + 2) ∧ (PyData.shownAll (D.pyL xs)).length = xs.length
  | [], _ => by simp [D.pyL, PyData.showableAll, PyData.shownAll, piled]
  | x :: xs, h => by
    obtain ⟨a, c, e⟩ := shwL fun y hy => h y (List.mem_cons_of_mem _ hy)
    have hx := h x (List.mem_cons_self ..)
    refine ⟨by simp [D.pyL, PyData.showableAll, a, hx.ok], ?_, by simp [D.pyL, PyData.shownAll, e]⟩
    simp only [D.pyL, PyData.shownAll, piled_cons, List.length_cons, Nat.add_mul, Nat.one_mul]
    have := hx.len
    omega
theorem listText_le : ∀ ts : List Str, (listText ts).length ≤ piled ts + 2
  | [] => by decide
  | t :: r => by
    have h := textFrom_length_pos r 1 (("[" : Str) ++ (if (0 : Nat) > 0 then ", " else "" : String) ++ t) (Nat.succ_pos 0)
    have e : ((("[" : Str) ++ (if (0 : Nat) > 0 then ", " else "" : String) ++ t)).length = 1 + t.length := by
      rw [strLen_append, strLen_append]; rfl
    have hX : (listText (t :: r)).length = (textFrom 0 "[" (t :: r)).length + 1 := by
      show (textFrom 0 "[" (t :: r) ++ "]").length = _
      rw [strLen_append]; rfl
    have hY : (textFrom 0 "[" (t :: r)).length = 1 + t.length + piled r := by
      show (textFrom 1 _ r).length = _
      rw [h, e]
    rw [hX, hY, piled_cons]
    omega
theorem tupleText_le (ts : List Str) : (tupleText ts).length ≤ piled ts + 3 := by
  unfold tupleText
  rw [strLen_append, strLen_append]
  have e1 : ((("(" : String) : Str)).length = 1 := rfl
  have e3 : (((if ts.length == 1 then ",)" else ")" : String) : Str)).length ≤ 2 := by split <;> decide
  rw [e1]
  by_cases h : ts = []
  · subst h
    have : (Str.join ", " ([] : List Str)).length = 0 := rfl
    omega
  · have := join_length_add ts h
    omega
theorem Shw.lst {b m : Nat} {xs : List D} (h : ∀ x ∈ xs, Shw b x) (hm : xs.length * (b + 2) + 3 ≤ m) : Shw m (.lst xs) := by
  obtain ⟨a, c, _⟩ := shwL h
  refine ⟨by simpa [D.py, PyData.showable] using a, ?_⟩
  simp only [D.py, PyData.shown]
  have := listText_le (PyData.shownAll (D.pyL xs))
  omega
theorem Shw.tup {b m : Nat} {xs : List D} (h : ∀ x ∈ xs, Shw b x) (hm : xs.length * (b + 2) + 3 ≤ m) : Shw m (.tup xs) := by
  obtain ⟨a, c, _⟩ := shwL h
  refine ⟨by simpa [D.py, PyData.showable] using a, ?_⟩
  simp only [D.py, PyData.shown]
  have := tupleText_le (PyData.shownAll (D.pyL xs))
  omega
end DS
namespace DS
open PySem PySem.Spec PyProof.Rows L2
/-- a contract that is never asked -/
theorem okF_false {P : Program} {w : World} {K : KF} {mg : Str → Option Value} {base : Heap} {x : Str} {params : Arguments} {body : List Stmt} {scope : Scope} {dvs : List V} {ps : List Str} {k : Nat} {C : DC} (F : ∃ fd, FunD K x x params body scope dvs [] (He.ga K x) fd)
    (no : ∀ ds n Q Ed, ¬ C ds n Q Ed) : OkF P w K mg base x params body scope dvs ps k C := by
  obtain ⟨fd, D⟩ := F
  refine ⟨fd, D, ⟨fun vs H Q E h => ?_, fun A fr s H ar us vs Q E _ _ _ _ _ h => ?_⟩⟩ <;>
  · obtain ⟨F, pa, n, ds, Qd, Ed, h1, h2, h3, h4, _⟩ := h
    exact (no _ _ _ _ h4).elim
/-- [f x for x in items] -/
theorem lcP {α : Type} {tg : FTg} {te : FX D} {vs : List Nat} {δ : Dst} (δ0 : Dst) (a f : α → D) (items : List α) {K : List D → Dst → Prop} (h0 : wipeD δ vs = δ0) (len : items.length ≤ sizeLine)
    (step : ∀ x ∈ items, ∀ K : D → Dst → Prop, (∀ δ', wipeD δ' vs = δ0 → K (f x) δ') → tg (a x) δ0 fun δ => te NoE δ K) (fin : ∀ δ', wipeD δ' vs = δ0 → K (items.map f) δ') : lcL tg fYes te vs (items.map a) [] δ K := by
  have gen : ∀ (items : List α) (acc : List D) (δ : Dst) (K : List D → Dst → Prop), wipeD δ vs = δ0 → acc.length + items.length ≤ sizeLine →
      (∀ x ∈ items, ∀ K : D → Dst → Prop, (∀ δ', wipeD δ' vs = δ0 → K (f x) δ') → tg (a x) δ0 fun δ => te NoE δ K) → (∀ δ', wipeD δ' vs = δ0 → K (acc ++ items.map f) δ') → lcL tg fYes te vs (items.map a) acc δ K := by
    intro items
    induction items with
    | nil =>
      intro acc δ K h _ _ fin
      have := fin δ h
      simpa [lcL] using this
    | cons x r ih =>
      intro acc δ K h len step fin
      rw [List.map_cons]
      unfold lcL
      rw [h]
      rw [List.length_cons] at len
      refine step x (List.mem_cons_self ..) _ fun δ' e => ⟨by omega, ?_⟩
      refine ih (acc ++ [f x]) δ' K e (by rw [List.length_append, List.length_singleton]; omega) (fun y hy => step y (List.mem_cons_of_mem _ hy)) fun δ2 h2 => ?_
      have := fin δ2 h2
      rwa [List.map_cons, ← List.singleton_append, ← List.append_assoc] at this
  exact gen items [] δ K h0 (by simpa using len) step (by simpa using fin)
/-- the second loop of [z for x in items for z in ..], pure -/
theorem lcP1 {α : Type} {tg : FTg} {te : FX D} {vs : List Nat} (δ0 : Dst) (a f : α → D) : ∀ (items : List α) (acc : List D) (δ : Dst) (K : List D → Dst → Prop), wipeD δ vs = δ0 → acc.length + items.length ≤ sizeLine →
    (∀ x ∈ items, ∀ K : D → Dst → Prop, (∀ δ', wipeD δ' vs = δ0 → K (f x) δ') → tg (a x) δ0 fun δ => te NoE δ K) → (∀ δ', wipeD δ' vs = δ0 → K (acc ++ items.map f) δ') → lcG tg fYes (bdOne te) vs (items.map a) acc δ K
  | [], acc, δ, K, h, _, _, fin => by
    have := fin δ h
    simpa [lcG] using this
  | x :: r, acc, δ, K, h, len, step, fin => by
    rw [List.map_cons]
    unfold lcG
    rw [h]
    rw [List.length_cons] at len
    refine step x (List.mem_cons_self ..) _ fun δ' e => ⟨by omega, ?_⟩
    refine lcP1 δ0 a f r (acc ++ [f x]) δ' K e (by rw [List.length_append, List.length_singleton]; omega) (fun y hy => step y (List.mem_cons_of_mem _ hy)) fun δ2 h2 => ?_
    have := fin δ2 h2
    rwa [List.map_cons, ← List.singleton_append, ← List.append_assoc] at this
/-- [z for x in items for z in g x], pure -/
theorem lcP2 {α : Type} {tg tg1 : FTg} {fi1 : FX (List D)} {te : FX D} {vs vs1 : List Nat} (δ0 : Dst) (a : α → D) (g : α → List D) : ∀ (items : List α) (acc : List D) (δ : Dst) (K : List D → Dst → Prop), wipeD δ vs = δ0 → acc.length + (items.flatMap g).length ≤ sizeLine →
    (∀ x ∈ items, ∀ (acc : List D) (K : List D → Dst → Prop), acc.length + (g x).length ≤ sizeLine → (∀ δ', wipeD δ' vs = δ0 → K (acc ++ g x) δ') → tg (a x) δ0 fun δ => bdTwo fi1 tg1 fYes te vs1 acc δ K) → (∀ δ', wipeD δ' vs = δ0 → K (acc ++ items.flatMap g) δ') →
    lcG tg fYes (bdTwo fi1 tg1 fYes te vs1) vs (items.map a) acc δ K
  | [], acc, δ, K, h, _, _, fin => by
    have := fin δ h
    simpa [lcG] using this
  | x :: r, acc, δ, K, h, len, step, fin => by
    rw [List.map_cons]
    unfold lcG
    rw [h]
    rw [List.flatMap_cons, List.length_append] at len
    show tg (a x) δ0 fun δ => bdTwo fi1 tg1 fYes te vs1 acc δ fun acc' δ3 => lcG tg fYes (bdTwo fi1 tg1 fYes te vs1) vs (r.map a) acc' δ3 K
    refine step x (List.mem_cons_self ..) acc _ (by omega) fun δ' e => ?_
    refine lcP2 δ0 a g r (acc ++ g x) δ' K e (by rw [List.length_append]; omega) (fun y hy => step y (List.mem_cons_of_mem _ hy)) fun δ2 h2 => ?_
    have := fin δ2 h2
    rwa [List.flatMap_cons, ← List.append_assoc] at this
theorem ixN_n {n i : Nat} (h : i < n) : L2.ixN n (i : Int) = some i := by
  unfold L2.ixN
  rw [if_pos (by omega), if_pos (by omega)]
  simp
theorem atI_nat {α : Type} (xs : List α) (i : Nat) (h : i < xs.length) : L2.atI xs (i : Int) = some xs[i] := by
  unfold L2.atI
  rw [ixN_n h]
  simp [List.getElem?_eq_getElem h]
theorem atI_0 {α : Type} (a : α) (r : List α) : L2.atI (a :: r) (0 : Int) = some a := atI_nat (a :: r) 0 (by simp)
theorem atI_1 {α : Type} (a b : α) (r : List α) : L2.atI (a :: b :: r) (1 : Int) = some b := atI_nat (a :: b :: r) 1 (by simp)
/- the slots behind a comprehension are known -/
/-- a for loop: what holds of what was passed -/
theorem forP {α : Type} {tg : FTg} {body : DEn → Dst → Prop} {N : DEn} (a : α → D) (items : List α) (I : List α → Dst → Prop)
    (step : ∀ (pre : List α) (x : α) (post : List α) (δ : Dst) (K : Dst → Prop), items = pre ++ x :: post → I pre δ → (∀ δ', I (pre ++ [x]) δ' → K δ') → tg (a x) δ fun δ2 => body ⟨K, N.rt, N.nx, K⟩ δ2)
    (fin : ∀ δ', I items δ' → N.nx δ') {δ : Dst} (h0 : I [] δ) : forL tg body N (items.map a) δ := by
  have gen : ∀ (post pre : List α) (δ : Dst), items = pre ++ post → I pre δ → forL tg body N (post.map a) δ := by
    intro post
    induction post with
    | nil =>
      intro pre δ e h
      rw [List.append_nil] at e
      subst e
      exact fin δ h
    | cons x post ih =>
      intro pre δ e h
      rw [List.map_cons]
      unfold forL
      exact step pre x post δ _ e h fun δ' h' => ih (pre ++ [x]) δ' (by rw [e, List.append_assoc]; rfl) h'
  exact gen items [] δ (by simp) h0
end DS
end
section
set_option maxRecDepth 100000
set_option maxHeartbeats 1000000
/-! DN3: texts shown: what repr gives. -/
namespace DS
open PySem PySem.Spec PyProof.Rows L2
def okC (l : List Nat) : Prop := ∀ c ∈ l, c < 0x110000
theorem okC_iff (x : Str) : PyData.strOk x = true ↔ okC x.cps.toList := by
  unfold PyData.strOk okC
  rw [← Array.all_toList, List.all_eq_true]
  simp
theorem okC_app {a b : List Nat} (ha : okC a) (hb : okC b) : okC (a ++ b) := fun c hc => (List.mem_append.mp hc).elim (ha c) (hb c)
theorem okC_chars (l : List Char) : okC (l.map Char.toNat) := fun c hc => by
  obtain ⟨d, _, rfl⟩ := List.mem_map.mp hc
  have := d.valid
  unfold UInt32.isValidChar Nat.isValidChar at this
  show d.toNat < _
  unfold Char.toNat
  omega
theorem reprChar_ok {q c : Nat} (hq : q < 0x110000) (hc : c < 0x110000) : okC (PySem.Builtin.Str.reprChar q c) := by
  have one : okC [92, c] := fun d hd => by
    simp only [List.mem_cons, List.not_mem_nil, or_false] at hd
    rcases hd with rfl | rfl <;> omega
  have hex : ∀ k, okC (List.replicate (k - ((Nat.toDigits 16 c).map Char.toNat).length) 48 ++ (Nat.toDigits 16 c).map Char.toNat) := fun k =>
    okC_app (fun d hd => by rw [(List.mem_replicate.mp hd).2]; omega) (okC_chars _)
  unfold PySem.Builtin.Str.reprChar
  dsimp only
  split
  · exact one
  split
  · intro d hd; simp only [List.mem_cons, List.not_mem_nil, or_false] at hd; rcases hd with rfl | rfl <;> omega
  split
  · intro d hd; simp only [List.mem_cons, List.not_mem_nil, or_false] at hd; rcases hd with rfl | rfl <;> omega
  split
  · intro d hd; simp only [List.mem_cons, List.not_mem_nil, or_false] at hd; rcases hd with rfl | rfl <;> omega
  split
  · intro d hd; rw [List.mem_singleton] at hd; rw [hd]; exact hc
  split
  · exact okC_app (fun d hd => by simp only [List.mem_cons, List.not_mem_nil, or_false] at hd; rcases hd with rfl | rfl <;> omega) (hex 2)
  split
  · exact okC_app (fun d hd => by simp only [List.mem_cons, List.not_mem_nil, or_false] at hd; rcases hd with rfl | rfl <;> omega) (hex 4)
  · exact okC_app (fun d hd => by simp only [List.mem_cons, List.not_mem_nil, or_false] at hd; rcases hd with rfl | rfl <;> omega) (hex 8)
theorem reprText_ok {x : Str} (h : PyData.strOk x = true) : PyData.strOk (reprText x) = true := by
  rw [okC_iff] at h ⊢
  have hq : reprQuote x < 0x110000 := by unfold reprQuote; split <;> omega
  have fold : ∀ (l : List Nat) (acc : Array Nat), okC l → okC acc.toList → okC (l.foldl (fun out c => out ++ (PySem.Builtin.Str.reprChar (reprQuote x) c).toArray) acc).toList := by
    intro l
    induction l with
    | nil => intro acc _ h; exact h
    | cons c l ih =>
      intro acc hl ha
      rw [List.foldl_cons]
      refine ih _ (fun d hd => hl d (List.mem_cons_of_mem _ hd)) ?_
      rw [Array.toList_append]
      exact okC_app ha (reprChar_ok hq (hl c (List.mem_cons_self ..)))
  unfold reprText
  show okC ((x.cps.foldl (fun out c => out ++ (PySem.Builtin.Str.reprChar (reprQuote x) c).toArray) #[reprQuote x]).push (reprQuote x)).toList
  rw [Array.toList_push, ← Array.foldl_toList]
  refine okC_app (fold _ _ h fun d hd => ?_) fun d hd => ?_
  · have : d = reprQuote x := by simpa using hd
    rw [this]; exact hq
  · rw [List.mem_singleton] at hd
    rw [hd]; exact hq
theorem reprText_few {x : Str} (h : PyData.strOk x = true) : (reprText x).length ≤ 10 * x.length + 2 := PySem.StrLaws.reprText_len x fun c hc => by
  have := (okC_iff x).mp h c hc
  omega
theorem Shw.str {x : Str} (h : PyData.strOk x = true) {b : Nat} (hb : 10 * x.length + 2 ≤ b) : Shw b (.str x) := by
  refine ⟨by simp [D.py, PyData.showable], ?_⟩
  simp only [D.py, PyData.shown]
  exact Nat.le_trans (reprText_few h) hb
end DS
end
section
set_option maxRecDepth 100000
set_option maxHeartbeats 1000000
/-! DN4: openers, comprehensions that draw. -/
namespace DS
open PySem PySem.Spec PyProof.Rows L2
theorem if_open {t : FX Bool} {f g : FSt} {Ed : EdT} {N : DEn} {δ : Dst} (h : ∀ F G : FSt, F = f → G = g → t Ed δ fun b δ' => match b with
  | true => F Ed N δ'
  | false => G Ed N δ') : sIf t f g Ed N δ := h f g rfl rfl
/-- a comprehension that draws: what holds of what was passed -/
theorem lcI {α : Type} {tg : FTg} {te : FX D} {vs : List Nat} (a : α → D) (items : List α) (I : List α → List D → Dst → Prop) (len : items.length ≤ sizeLine)
    (step : ∀ (pre : List α) (x : α) (post : List α) (acc : List D) (δ : Dst) (K : D → Dst → Prop), items = pre ++ x :: post → acc.length = pre.length → I pre acc δ → (∀ y δ', I (pre ++ [x]) (acc ++ [y]) δ' → K y δ') → tg (a x) (wipeD δ vs) fun δ1 => te NoE δ1 K)
    {δ : Dst} {K : List D → Dst → Prop} (h0 : I [] [] δ) (fin : ∀ ys δ', I items ys δ' → K ys δ') : lcL tg fYes te vs (items.map a) [] δ K := by
  have gen : ∀ (post pre : List α) (acc : List D) (δ : Dst), items = pre ++ post → acc.length = pre.length → I pre acc δ → lcL tg fYes te vs (post.map a) acc δ K := by
    intro post
    induction post with
    | nil =>
      intro pre acc δ e _ h
      rw [List.append_nil] at e
      subst e
      exact fin acc δ h
    | cons x post ih =>
      intro pre acc δ e hl h
      rw [List.map_cons]
      unfold lcL
      refine step pre x post acc δ _ e hl h fun y δ' h' => ⟨?_, ih (pre ++ [x]) (acc ++ [y]) δ' (by rw [e, List.append_assoc]; rfl) (by rw [List.length_append, List.length_append, hl]; rfl) h'⟩
      have := congrArg List.length e
      rw [List.length_append, List.length_cons] at this
      omega
  exact gen items [] [] δ rfl rfl h0
theorem perm_map_ex {α : Type} (f : α → D) {l m : List D} (p : l.Perm m) : ∀ us : List α, m = us.map f → ∃ vs : List α, vs.Perm us ∧ l = vs.map f := by
  induction p with
  | nil => intro us h; exact ⟨[], by cases us <;> simp_all, rfl⟩
  | cons x _ ih =>
    intro us h
    cases us with
    | nil => simp at h
    | cons u us =>
      simp only [List.map_cons, List.cons.injEq] at h
      obtain ⟨vs, p, e⟩ := ih us h.2
      exact ⟨u :: vs, p.cons u, by rw [List.map_cons, ← e, ← h.1]⟩
  | swap x y l =>
    intro us h
    match us, h with
    | u :: v :: us, h =>
      simp only [List.map_cons, List.cons.injEq] at h
      exact ⟨v :: u :: us, .swap .., by rw [List.map_cons, List.map_cons, ← h.1, ← h.2.1, ← h.2.2]⟩
    | [u], h => simp at h
    | [], h => simp at h
  | trans _ _ ih1 ih2 =>
    intro us h
    obtain ⟨vs, p, e⟩ := ih2 us h
    obtain ⟨ws, q, e2⟩ := ih1 vs e
    exact ⟨ws, q.trans p, e2⟩
end DS
end
section
set_option maxRecDepth 100000
set_option maxHeartbeats 1000000
/-! DX1: the program's own exceptions, made: __init__ with super().__init__(..) and self.x = x. -/
namespace DS
open PySem PySem.W PySem.Calls PySem.Spec PyProof.Rows L2
/-- what is known of a class C of exceptions whose __init__ is the def at f -/
structure InitK (P : Program) (K : KF) (C f : Addr) (params : Arguments) (body : List Stmt) (scope : Scope) : Prop where
  cls : OexC K C
  init : PySem.W.findIn K (.ref C) "__init__" = some (some (.ref f))
  fnT : PySem.W.typeIn K (.ref f) = some (.type "function")
  fn : ∃ (oc : Value) (od : Option Addr) (name qual : Str) (kV doc pm : Value) (an : Option Addr) (cda : Addr) (ct : Value) (cc : Addr) (osl : Array (Option Value)) (vs : Array Value) (file : Str) (tf : Tok) (ccl : Value) (cdd : Option Addr) (ccs : Array (Option Value)) (cl : Value) (cld : Option Addr) (csl : Array (Option Value)),
    K.lookup f = some ⟨oc, od, .func (ksFn name qual params body scope .none kV doc pm an (.ref cda) ct cc), osl⟩ ∧ codeIn K (.ref cda) qual = true ∧
    K.lookup cda = some ⟨ccl, cdd, .fields vs, ccs⟩ ∧ vs[2]? = some (.str file tf) ∧ ((P.main.file : Str) == file) = true ∧ K.lookup cc = some ⟨cl, cld, .cell (some (.ref C)), csl⟩
  sup : nsIn K mainGlobals "super" = some none
  sta : nsIn K cStatics "thirdparty.any" = some none
  subV : subIn K (.ref C) (.type "ValueError") = some true
  mro : mroIn K C (.ref C) = some true
  along : ks_superIn K C C "__init__" = some (some (.builtin "ValueError.__init__"))
  top : (P.main.scope.names.lookup ("super" : Str)).isSome = false
section
variable {P : Program} {w : World} {A : Around} {K : KF} {C f e L t0 : Addr} {params : Arguments} {body : List Stmt} {scope : Scope} {E : Value → Shared → Prop} {s : Shared} {m mg mb : Str → Option Value} {qual : Str} {cda cc : Addr} {us : List Value}
/-- the class's object -/
theorem InitK.obj (T : InitK P K C f params body scope) (X : K.In s.heap) : ∃ cd, clsIn K C = some cd ∧ cd.hasDict = true ∧ HandSPX.refsVE cd.mro = true ∧ ∃ oD, s.heap.get? C = some oD ∧ oD.data = .cls cd := by
  obtain ⟨nm, q, N, bs, bm, sn, sub, ab, col, dd, k0, k1, k2, k3, k5, hC, hbm⟩ := T.cls.cls
  refine ⟨{ name := nm, bases := bs, mro := .ref C :: bm, ns := N, qualname := q, hasDict := true, slotNames := sn, subclasses := sub, abstract := ab, collection := col, hasDel := false }, ?_, rfl, hbm, _, X _ _ hC, rfl⟩
  unfold PySem.W.clsIn
  rw [hC]
/-- super().__init__(..) in the __init__ of C, called for the new exception e -/
theorem super_init {fd : FuncData} {of : Obj} {ar : Arg} {self : Str} {es : List Expr} {p0 p1 p2 p3 p4 : Pos} {Q : Flow → Shared → Prop} {vs : Array Value} {file : Str} {tf : Tok} {oc ocl : Obj} {pl : Sem Bool}
    (T : InitK P K C f params body scope) (X : K.In s.heap) (hf : s.heap.get? f = some of) (hfd : of.data = .func fd) (hp : (fd.params.posonlyargs ++ fd.params.args).head? = some ar) (hself : ar.arg = self)
    (hcc : s.heap.get? cda = some oc) (hoc : oc.data = .fields vs) (hvs : vs[2]? = some (.str file tf)) (hfile : ((P.main.file : Str) == file) = true) (hcl : s.heap.get? cc = some ocl) (hcd : ocl.data = .cell (some (.ref C)))
    (hG : s.heap.Ns mainGlobals mg) (hB : s.heap.Ns builtinsNs mb) (hbb : ∀ x : Str, x ≠ "__name__" → mb x = bootBuiltins x)
    (hL : s.heap.Ns L m) (hm : m self = some (.ref e)) (he : s.heap.get? e = some (HandSPX.excO C t0)) (hus : us.length ≤ sizeLine)
    (hk : scope.kind = .function) (hks : scope.names.lookup ("super" : Str) = some .globalImplicit) (hkc : scope.names.lookup ("__class__" : Str) = some .free) (hka : scope.names.lookup self = some .local)
    (args : ∀ (s1 : Shared) (Q1 : List Value → Shared → Prop), s1.heap.Ns L m → Q1 us s1 → wpAny (model P w) A (spliced (backTo p3 (starEach es (ksEnv qual scope L f (.ref cda) cc)))) Q1 E s1)
    {x0 : Sem Value} {rest0 : List (Bool × Sem Value)} (sh : backTo p3 (starEach es (ksEnv qual scope L f (.ref cda) cc)) = (false, x0) :: rest0)
    (plain : (backTo p3 (starEach es (ksEnv qual scope L f (.ref cda) cc))).any (·.1) = false)
    (ev : eval (.Call (.Attribute (.Call (.Name "super" p0) [] [] p1) "__init__" p2) es [] p3) (ksEnv qual scope L f (.ref cda) cc) = (do
      let ov ← attributeBase (.Call (.Name "super" p0) [] [] p1) "__init__" (ksEnv qual scope L f (.ref cda) cc) (eval (.Call (.Name "super" p0) [] [] p1) (ksEnv qual scope L f (.ref cda) cc))
      standAt p2.atName
      let (f', first) ← holding [ov] (getMethod ov "__init__" pl)
      callWith p3 f' first (backTo p3 (starEach es (ksEnv qual scope L f (.ref cda) cc))) []))
    (sw : swapsWith (.Call (.Attribute (.Call (.Name "super" p0) [] [] p1) "__init__" p2) es [] p3) none p4.line (ksEnv qual scope L f (.ref cda) cc) = pure false) (hi : interactive (ksEnv qual scope L f (.ref cda) cc) = false)
    (h : ∀ (h' : Heap) (tk : Nat) (t1 : Addr), (∀ b o, b ≠ e → s.heap.get? b = some o → h'.get? b = some o) → h'.get? e = some (HandSPX.excO C t1) → Q .next { s with heap := h', toks := tk }) :
    _root_.PySem.wpAt (model P w) A (.func body (ksEnv qual scope L f (.ref cda) cc)) (exec (.Expr (.Call (.Attribute (.Call (.Name "super" p0) [] [] p1) "__init__" p2) es [] p3) p4) (ksEnv qual scope L f (.ref cda) cc)) Q E s := by
  obtain ⟨cd, hcdK, hdd, hre, oD, hD, hDd⟩ := T.obj X
  apply ks_wpAt_Expr_any (hs := sw) (hi := hi)
  apply ks_wpAt_MethodCall (he := ev)
  subst hself
  apply ks_wpAt_super_base (env := ksEnv qual scope L f (.ref cda) cc) hks hkc rfl rfl hf hfd hp rfl hcc hoc hvs hfile T.top
  apply ks_loadName_global (env := ksEnv qual scope L f (.ref cda) cc) hk hks
  apply loadGlobal_builtin (env := ksEnv qual scope L f (.ref cda) cc) hG (mg_none_of X hG T.sup) hB ((hbb _ (by decide +kernel)).trans (show bootBuiltins "super" = some (.type "super") by first | rfl | kernel_rfl))
  constructor
  · rfl
  apply wpAny_loadName_free (env := ksEnv qual scope L f (.ref cda) cc) hk hkc rfl ⟨_, hcl, hcd⟩
  apply wpAny_loadName_local (env := ksEnv qual scope L f (.ref cda) cc) hk hka hL hm
  obtain ⟨hp0, g, d, t, os⟩ := s
  apply ks_wpAny_isType_cls hD hDd
  constructor
  · rfl
  apply ks_wpAny_call_super hD hDd he rfl (fun c z => by cases z) (looks_mroIn X T.mro)
  intro h1 so1 keep1
  have X1 : K.In h1 := X.keeps keep1
  have he1 : h1.get? e = some (HandSPX.excO C t0) := keep1 _ _ he
  have IA : InstAt h1 e (HandSPX.excO C t0) C none := ⟨he1, rfl, rfl, trivial⟩
  have al : alongIn K "__init__" ((cd.mro.dropWhile (· != .ref C)).drop 1) = some (some (.builtin "ValueError.__init__")) := by
    have z := T.along
    unfold ks_superIn at z
    rw [hcdK] at z
    exact z
  apply kxs_getMethod kxs_ValueError so1 (looks_opaque X1 T.sta) (l₀ := cd.mro) ((looks_clsIn X1 hcdK).andThen .now) rfl X1 al (IA.type.andThen (looks_subIn X1 T.subV)) (ks_ne X1 IA hcdK) (by decide)
  have hu : (h1.push (kxs_mw "ValueError.__init__" e)).get? h1.objs.size = some (kxs_mw "ValueError.__init__" e) := Heap.get?_push_at rfl rfl
  have keep2 : ∀ b o, hp0.get? b = some o → (h1.push (kxs_mw "ValueError.__init__" e)).get? b = some o := fun b o z => Heap.get?_push_of_some _ (keep1 b o z)
  have ns2 : (h1.push (kxs_mw "ValueError.__init__" e)).Ns L m := hL.keeps keep2
  apply kxs_callWith (i := "ValueError.__init__") (x := e) plain
  rw [sh]
  apply evalArgs_plain
  rw [← sh]
  apply args _ _ ns2
  constructor
  · exact hu
  obtain ⟨nm, q, N, bs, bm, sn, sub, ab, col, dd, k0, k1, k2, k3, k5, hC, hbm⟩ := T.cls.cls
  have hC2 := keep2 _ _ (X _ _ hC)
  have he2 := keep2 _ _ he
  apply wpAny_call
  apply codeAny_of_tree
  show wpAny _ A.in1 (callAny (.ref h1.objs.size) ⟨us, []⟩) _ _ _
  simp only [callAny]
  apply wpAny_bind
  apply wpAny_load hu
  have b1 : (Value.type "method-wrapper" == Value.type "method" || Value.type "method-wrapper" == Value.type "builtin_function_or_method" || Value.type "method-wrapper" == Value.type "method-wrapper") = true := by decide
  simp only [kxs_mw, b1, if_true]
  apply KFB.if_so (by decide)
  refine wpAny_bind <| check_bound_init F.excBase_ValueError.toExcCallFacts hC2 he2 rfl ?_
  refine wpAny_bind <| wpAny_pure <| wpAny_pure ⟨plainId_quiet F.excBase_ValueError.init.plain _, ?_⟩
  refine codeAny_builtin F.excBase_ValueError.initEntry ?_
  exact exc_init_tree (cls := .ref C) (t0 := t0) (dv := none) (c2 := .none) (c3 := .none) (b4 := .bool false) he2 hus fun h2 kp e2 _ => h h2 (t + 1) _ (fun b o nb ob => kp b o nb (keep2 b o ob)) e2
/-- e.p = u, the first one -/
theorem exc_set1 {p : Str} {u : Value} {Q : Unit → Shared → Prop} (T : InitK P K C f params body scope) (X : K.In s.heap) (he : s.heap.get? e = some (HandSPX.excO C t0)) (no : PySem.W.findIn K (.ref C) p = some none)
    (h : ∀ (h' : Heap) (tk : Nat) (dx : Addr), (∀ b o, b ≠ e → s.heap.get? b = some o → h'.get? b = some o) → s.heap.objs.size ≤ dx → dx ≠ e →
      h'.get? e = some ({ cls := .ref C, dict := some dx, data := .fields #[.ref t0, .none, .none, .none, .bool false, .none] } : Obj) → h'.Ns1 dx (fun y => if y = p then some u else none) → Q () { s with heap := h', toks := tk }) :
    wpAny (model P w) A (setAttr (.ref e) p u) Q E s := by
  obtain ⟨cd, hcdK, hdd, hre, _⟩ := T.obj X
  obtain ⟨hp, g, d, t, os⟩ := s
  refine set_plain X (od := none) ⟨he, rfl, rfl, trivial⟩ T.cls.sa ?_
  exact HandSPX.exc_osa X he hcdK hre hdd no fun h' tk dx k dn dne hx hn => h h' tk dx k dn dne hx hn
/-- a further one -/
theorem exc_set2 {p : Str} {u : Value} {dx : Addr} {m0 : Str → Option Value} {nl : List Str} {Q : Unit → Shared → Prop} (T : InitK P K C f params body scope) (X : K.In s.heap)
    (he : s.heap.get? e = some ({ cls := .ref C, dict := some dx, data := .fields #[.ref t0, .none, .none, .none, .bool false, .none] } : Obj)) (hn : s.heap.Ns1 dx m0) (hw : Within m0 nl) (hz : nl.length ≤ 1000) (no : PySem.W.findIn K (.ref C) p = some none)
    (h : ∀ (h' : Heap) (tk : Nat), (∀ b o, b ≠ dx → s.heap.get? b = some o → h'.get? b = some o) → h'.Ns1 dx (fun y => if y = p then some u else m0 y) → Q () { s with heap := h', toks := tk }) :
    wpAny (model P w) A (setAttr (.ref e) p u) Q E s := by
  obtain ⟨cd, hcdK, hdd, hre, _⟩ := T.obj X
  obtain ⟨oD, _, _, hoD, _, _⟩ := hn.count hw
  obtain ⟨hp, g, d, t, os⟩ := s
  refine set_plain X (od := some oD) ⟨he, rfl, rfl, hoD⟩ T.cls.sa ?_
  exact OEX.osa_old X he hn hw hz hcdK hre hdd no fun h' tk k hn' => h h' tk k hn'
end
end DS
end
section
set_option maxRecDepth 100000
set_option maxHeartbeats 1000000
/-! DX2: an __init__ of one, of two fields runs. -/
namespace DS
open PySem PySem.W PySem.Calls PySem.Spec PyProof.Rows L2
/-- the text of an __init__(self, p, ..): super().__init__(p, ..); self.p = p; .. -/
structure TextK (params : Arguments) (scope : Scope) (sf : Str) (ps : List Str) : Prop where
  bind : ∀ (name qual : Str) (body : List Stmt) (kV doc pm : Value) (an : Option Addr) (cdv ct : Value) (cc : Addr) (us : List Value), us.length = ps.length + 1 → bindArgs (ksFn name qual params body scope .none kV doc pm an cdv ct cc) ⟨us, []⟩ = pure ((sf :: ps).zip us)
  first : ∃ ar, (params.posonlyargs ++ params.args).head? = some ar ∧ ar.arg = sf
  kind : scope.kind = .function
  sup : scope.names.lookup ("super" : Str) = some .globalImplicit
  cls : scope.names.lookup ("__class__" : Str) = some .free
  loc : ∀ p ∈ sf :: ps, scope.names.lookup p = some .local ∧ (p == ("__debug__" : Str)) = false
  noc : ∀ x ∈ scope.names, x.2 ≠ .cell
  co : scope.isCoroutine = false
  gen : scope.isGenerator = false
  nd : (sf :: ps).Nodup
section
variable {P : Program} {w : World} {A : Around} {K : KF} {C f e t0 : Addr} {params : Arguments} {body : List Stmt} {scope : Scope} {R : Result → Shared → Prop} {s : Shared} {mg mb : Str → Option Value}
/-- an exception of class C, its fields as told -/
def ExcAt (h : Heap) (C e dx : Addr) (fs : List (Str × Value)) : Prop := (∃ t1 : Addr, h.get? e = some ({ cls := .ref C, dict := some dx, data := .fields #[.ref t1, .none, .none, .none, .bool false, .none] } : Obj)) ∧ h.Ns1 dx fun y => fs.lookup y
theorem init_run1 {self p : Str} {u : Value} {p0 p1 p2 p3 p4 p5 p6 p7 p8 p9 : Pos} (T : InitK P K C f params body scope) (S : TextK params scope self [p])
    (hb : body = [.Expr (.Call (.Attribute (.Call (.Name "super" p0) [] [] p1) "__init__" p2) [.Name p p5] [] p3) p4, .Assign [.Attribute (.Name self p6) p p7] (.Name p p8) p9])
    {pl : Sem Bool} (ev : ∀ (qual : Str) (L f : Addr) (cd : Value) (cc : Addr), eval (.Call (.Attribute (.Call (.Name "super" p0) [] [] p1) "__init__" p2) [.Name p p5] [] p3) (ksEnv qual scope L f cd cc) = (do
      let ov ← attributeBase (.Call (.Name "super" p0) [] [] p1) "__init__" (ksEnv qual scope L f cd cc) (eval (.Call (.Name "super" p0) [] [] p1) (ksEnv qual scope L f cd cc))
      standAt p2.atName
      let (f', first) ← holding [ov] (getMethod ov "__init__" pl)
      callWith p3 f' first (backTo p3 (starEach [.Name p p5] (ksEnv qual scope L f cd cc))) []))
    (sw : ∀ (qual : Str) (L f : Addr) (cd : Value) (cc : Addr), swapsWith (.Call (.Attribute (.Call (.Name "super" p0) [] [] p1) "__init__" p2) [.Name p p5] [] p3) none p4.line (ksEnv qual scope L f cd cc) = pure false)
    (X : K.In s.heap) (lim : s.heap.NoLimit) (hG : s.heap.Ns mainGlobals mg) (hB : s.heap.Ns builtinsNs mb) (hbb : ∀ x : Str, x ≠ "__name__" → mb x = bootBuiltins x) (room : A.depth < recursionLimit)
    (he : s.heap.get? e = some (HandSPX.excO C t0)) (hK : K.lookup e = none) (no : PySem.W.findIn K (.ref C) p = some none)
    (h : ∀ (h' : Heap) (tk : Nat) (dx : Addr), (∀ b o, b ≠ e → s.heap.get? b = some o → h'.get? b = some o) → s.heap.objs.size ≤ dx → ExcAt h' C e dx [(p, u)] → R (.ok (.ret .none)) { s with heap := h', toks := tk }) :
    codeAny (model P w) A (.call (.ref f) ⟨[.ref e, u], []⟩) R s := by
  obtain ⟨oc, od, name, qual, kV, doc, pm, an, cda, ct, cc, osl, vs, file, tf, ccl, cdd, ccs, cl, cld, csl, hf, hcd, hcda, hvs, hfile, hcell⟩ := T.fn
  obtain ⟨ar, har, hself⟩ := S.first
  obtain ⟨l0, d0⟩ := S.loc self (by simp)
  obtain ⟨l1, d1⟩ := S.loc p (by simp)
  have ne : self ≠ p := fun z => by have := S.nd; simp [z] at this
  refine ks_codeAny_call_defAt (fd := ksFn name qual params body scope .none kV doc pm an (.ref cda) ct cc) (body := body) (binds := [(self, .ref e), (p, u)]) room (X _ _ hf) rfl lim (codeRec_of X hcd) rfl
    (BindsTo.of_eq (S.bind name qual body kV doc pm an (.ref cda) ct cc [.ref e, u] rfl)) S.noc (fun x hx => ?_) (fun h1 hns kp => ?_) S.co S.gen S.kind
  · simp only [List.mem_cons, List.not_mem_nil, or_false] at hx
    rcases hx with rfl | rfl
    · exact l0
    · exact l1
  obtain ⟨m, hm⟩ : ∃ m : Str → Option Value, m = fun x => List.lookup x ([(self, Value.ref e), (p, u)] : List (Str × Value)).reverse := ⟨_, rfl⟩
  rw [← hm] at hns
  have mself : m self = some (.ref e) := by
    have : (self == p) = false := by simpa using ne
    rw [hm]
    simp [List.lookup, this]
  have mp : m p = some u := by rw [hm]; simp [List.lookup]
  clear hm
  subst hb
  show _root_.PySem.wpAt (model P w) (A.deeper (ksEnv qual scope s.heap.objs.size f (.ref cda) cc)) (.func _ (ksEnv qual scope s.heap.objs.size f (.ref cda) cc)) (execs _ (ksEnv qual scope s.heap.objs.size f (.ref cda) cc)) _ _ _
  refine ks_wpAt_execs_cons ?_
  have nameP : ∀ (A' : Around) (E' : Value → Shared → Prop) (s1 : Shared) (q : Pos) (Q1 : Value → Shared → Prop), s1.heap.Ns s.heap.objs.size m → Q1 u s1 → wpAny (model P w) A' (eval (.Name p q) (ksEnv qual scope s.heap.objs.size f (.ref cda) cc)) Q1 E' s1 := fun A' E' s1 q Q1 n1 hq =>
    wpAny_Name (wpAny_loadName_local (env := ksEnv qual scope s.heap.objs.size f (.ref cda) cc) S.kind l1 n1 mp hq) d1
  refine super_init (us := [u]) (es := [.Name p p5]) (x0 := eval (.Name p p5) (ksEnv qual scope s.heap.objs.size f (.ref cda) cc)) (rest0 := []) T (X.keeps kp) (kp _ _ (X _ _ hf)) rfl har hself (kp _ _ (X _ _ hcda)) rfl hvs hfile (kp _ _ (X _ _ hcell)) rfl (hG.keeps kp) (hB.keeps kp) hbb hns mself (kp _ _ he)
    (by rw [sizeLine_eq]; simp) S.kind S.sup S.cls (by rw [hself] at *; exact l0) (fun s1 Q1 n1 hq => ?_) rfl rfl (ev _ _ _ _ _) (sw _ _ _ _ _) (by unfold interactive; rw [show (ksEnv qual scope s.heap.objs.size f (.ref cda) cc).scope.kind = .function from S.kind]; rfl) fun h2 tk2 t1 kp2 e2 => ?_
  · exact spliced_cons (nameP _ _ s1 _ _ n1 (spliced_nil hq))
  have X2 : K.In h2 := fun b o z => kp2 b o (fun y => by rw [y, hK] at z; cases z) (kp _ _ (X _ _ z))
  have Le : s.heap.objs.size ≠ e := fun z => by have := Heap.lt_size he; rw [z] at this; exact Nat.lt_irrefl _ this
  have n2 : h2.Ns s.heap.objs.size m := by
    obtain ⟨o, es, ep, q1, q2⟩ := hns
    exact ⟨o, es, ep, kp2 _ _ Le q1, q2⟩
  refine ks_wpAt_execs_cons ?_
  refine ks_wpAt_Assign_Attr ?_ (by rfl)
  refine wpAt_of_wpAny (nameP _ _ _ _ _ n2 ?_)
  refine wpAny_Name (wpAny_loadName_local (env := ksEnv qual scope s.heap.objs.size f (.ref cda) cc) S.kind l0 n2 mself ?_) d0
  refine exc_set1 T X2 e2 no fun h3 tk3 dx kp3 dn dne he3 hx3 => ?_
  refine wpAt_of_wpAny (wpAny_execs_nil ?_)
  have sz : s.heap.objs.size ≤ dx := Nat.le_trans (Nat.le_of_lt (by
    obtain ⟨o, es, ep, q1, q2⟩ := n2
    exact Heap.lt_size q1)) dn
  refine h h3 tk3 dx (fun b o nb ob => kp3 b o nb (kp2 b o nb (kp b o ob))) sz ⟨⟨t1, he3⟩, ?_⟩
  have ef : (fun y => if y = p then some u else none) = fun y => ([(p, u)] : List (Str × Value)).lookup y := by
    funext y
    by_cases z : y = p
    · subst z; simp [List.lookup]
    · have : (y == p) = false := by simpa using z
      simp [List.lookup, this, z]
  rw [← ef]
  exact hx3
theorem init_run2 {self p q : Str} {u v : Value} {p0 p1 p2 p3 p4 p5 p6 p7 p8 p9 r5 r6 r7 r8 r9 : Pos} (T : InitK P K C f params body scope) (S : TextK params scope self [p, q])
    (hb : body = [.Expr (.Call (.Attribute (.Call (.Name "super" p0) [] [] p1) "__init__" p2) [.Name p p5, .Name q r5] [] p3) p4, .Assign [.Attribute (.Name self p6) p p7] (.Name p p8) p9, .Assign [.Attribute (.Name self r6) q r7] (.Name q r8) r9])
    {pl : Sem Bool} (ev : ∀ (qual : Str) (L f : Addr) (cd : Value) (cc : Addr), eval (.Call (.Attribute (.Call (.Name "super" p0) [] [] p1) "__init__" p2) [.Name p p5, .Name q r5] [] p3) (ksEnv qual scope L f cd cc) = (do
      let ov ← attributeBase (.Call (.Name "super" p0) [] [] p1) "__init__" (ksEnv qual scope L f cd cc) (eval (.Call (.Name "super" p0) [] [] p1) (ksEnv qual scope L f cd cc))
      standAt p2.atName
      let (f', first) ← holding [ov] (getMethod ov "__init__" pl)
      callWith p3 f' first (backTo p3 (starEach [.Name p p5, .Name q r5] (ksEnv qual scope L f cd cc))) []))
    (sw : ∀ (qual : Str) (L f : Addr) (cd : Value) (cc : Addr), swapsWith (.Call (.Attribute (.Call (.Name "super" p0) [] [] p1) "__init__" p2) [.Name p p5, .Name q r5] [] p3) none p4.line (ksEnv qual scope L f cd cc) = pure false)
    (X : K.In s.heap) (lim : s.heap.NoLimit) (hG : s.heap.Ns mainGlobals mg) (hB : s.heap.Ns builtinsNs mb) (hbb : ∀ x : Str, x ≠ "__name__" → mb x = bootBuiltins x) (room : A.depth < recursionLimit)
    (he : s.heap.get? e = some (HandSPX.excO C t0)) (hK : K.lookup e = none) (no : PySem.W.findIn K (.ref C) p = some none) (no2 : PySem.W.findIn K (.ref C) q = some none)
    (h : ∀ (h' : Heap) (tk : Nat) (dx : Addr), (∀ b o, b ≠ e → s.heap.get? b = some o → h'.get? b = some o) → s.heap.objs.size ≤ dx → ExcAt h' C e dx [(q, v), (p, u)] → R (.ok (.ret .none)) { s with heap := h', toks := tk }) :
    codeAny (model P w) A (.call (.ref f) ⟨[.ref e, u, v], []⟩) R s := by
  obtain ⟨oc, od, name, qual, kV, doc, pm, an, cda, ct, cc, osl, vs, file, tf, ccl, cdd, ccs, cl, cld, csl, hf, hcd, hcda, hvs, hfile, hcell⟩ := T.fn
  obtain ⟨ar, har, hself⟩ := S.first
  obtain ⟨l0, d0⟩ := S.loc self (by simp)
  obtain ⟨l1, d1⟩ := S.loc p (by simp)
  obtain ⟨l2, d2⟩ := S.loc q (by simp)
  have nd := S.nd
  simp only [List.nodup_cons, List.mem_cons, List.not_mem_nil, or_false, not_or, not_false_eq_true, List.nodup_nil, and_true] at nd
  obtain ⟨⟨ne, ne2⟩, ne3⟩ := nd
  refine ks_codeAny_call_defAt (fd := ksFn name qual params body scope .none kV doc pm an (.ref cda) ct cc) (body := body) (binds := [(self, .ref e), (p, u), (q, v)]) room (X _ _ hf) rfl lim (codeRec_of X hcd) rfl
    (BindsTo.of_eq (S.bind name qual body kV doc pm an (.ref cda) ct cc [.ref e, u, v] rfl)) S.noc (fun x hx => ?_) (fun h1 hns kp => ?_) S.co S.gen S.kind
  · simp only [List.mem_cons, List.not_mem_nil, or_false] at hx
    rcases hx with rfl | rfl | rfl
    · exact l0
    · exact l1
    · exact l2
  obtain ⟨m, hm⟩ : ∃ m : Str → Option Value, m = fun x => List.lookup x ([(self, Value.ref e), (p, u), (q, v)] : List (Str × Value)).reverse := ⟨_, rfl⟩
  rw [← hm] at hns
  have mself : m self = some (.ref e) := by
    have a1 : (self == p) = false := by simpa using ne
    have a2 : (self == q) = false := by simpa using ne2
    rw [hm]
    simp [List.lookup, a1, a2]
  have mp : m p = some u := by
    have a3 : (p == q) = false := by simpa using ne3
    rw [hm]; simp [List.lookup, a3]
  have mq : m q = some v := by rw [hm]; simp [List.lookup]
  clear hm
  subst hb
  show _root_.PySem.wpAt (model P w) (A.deeper (ksEnv qual scope s.heap.objs.size f (.ref cda) cc)) (.func _ (ksEnv qual scope s.heap.objs.size f (.ref cda) cc)) (execs _ (ksEnv qual scope s.heap.objs.size f (.ref cda) cc)) _ _ _
  refine ks_wpAt_execs_cons ?_
  have nameP : ∀ (A' : Around) (E' : Value → Shared → Prop) (s1 : Shared) (q' : Pos) (Q1 : Value → Shared → Prop), s1.heap.Ns s.heap.objs.size m → Q1 u s1 → wpAny (model P w) A' (eval (.Name p q') (ksEnv qual scope s.heap.objs.size f (.ref cda) cc)) Q1 E' s1 := fun A' E' s1 q Q1 n1 hq =>
    wpAny_Name (wpAny_loadName_local (env := ksEnv qual scope s.heap.objs.size f (.ref cda) cc) S.kind l1 n1 mp hq) d1
  have nameQ : ∀ (A' : Around) (E' : Value → Shared → Prop) (s1 : Shared) (q' : Pos) (Q1 : Value → Shared → Prop), s1.heap.Ns s.heap.objs.size m → Q1 v s1 → wpAny (model P w) A' (eval (.Name q q') (ksEnv qual scope s.heap.objs.size f (.ref cda) cc)) Q1 E' s1 := fun A' E' s1 q Q1 n1 hq =>
    wpAny_Name (wpAny_loadName_local (env := ksEnv qual scope s.heap.objs.size f (.ref cda) cc) S.kind l2 n1 mq hq) d2
  refine super_init (us := [u, v]) (es := [.Name p p5, .Name q r5]) (x0 := eval (.Name p p5) (ksEnv qual scope s.heap.objs.size f (.ref cda) cc)) (rest0 := [(false, eval (.Name q r5) (ksEnv qual scope s.heap.objs.size f (.ref cda) cc))]) T (X.keeps kp) (kp _ _ (X _ _ hf)) rfl har hself (kp _ _ (X _ _ hcda)) rfl hvs hfile (kp _ _ (X _ _ hcell)) rfl (hG.keeps kp) (hB.keeps kp) hbb hns mself (kp _ _ he)
    (by rw [sizeLine_eq]; simp) S.kind S.sup S.cls (by rw [hself] at *; exact l0) (fun s1 Q1 n1 hq => ?_) rfl rfl (ev _ _ _ _ _) (sw _ _ _ _ _) (by unfold interactive; rw [show (ksEnv qual scope s.heap.objs.size f (.ref cda) cc).scope.kind = .function from S.kind]; rfl) fun h2 tk2 t1 kp2 e2 => ?_
  · exact spliced_cons (nameP _ _ s1 _ _ n1 (spliced_cons (nameQ _ _ s1 _ _ n1 (spliced_nil hq))))
  have X2 : K.In h2 := fun b o z => kp2 b o (fun y => by rw [y, hK] at z; cases z) (kp _ _ (X _ _ z))
  have Le : s.heap.objs.size ≠ e := fun z => by have := Heap.lt_size he; rw [z] at this; exact Nat.lt_irrefl _ this
  have n2 : h2.Ns s.heap.objs.size m := by
    obtain ⟨o, es, ep, q1, q2⟩ := hns
    exact ⟨o, es, ep, kp2 _ _ Le q1, q2⟩
  refine ks_wpAt_execs_cons ?_
  refine ks_wpAt_Assign_Attr ?_ (by rfl)
  refine wpAt_of_wpAny (nameP _ _ _ _ _ n2 ?_)
  refine wpAny_Name (wpAny_loadName_local (env := ksEnv qual scope s.heap.objs.size f (.ref cda) cc) S.kind l0 n2 mself ?_) d0
  refine exc_set1 T X2 e2 no fun h3 tk3 dx kp3 dn dne he3 hx3 => ?_
  have X3 : K.In h3 := fun b o z => kp3 b o (fun y => by rw [y, hK] at z; cases z) (X2 _ _ z)
  have n3 : h3.Ns s.heap.objs.size m := by
    obtain ⟨o, es, ep, q1, q2⟩ := n2
    exact ⟨o, es, ep, kp3 _ _ Le q1, q2⟩
  have hw : Within (fun y => if y = p then some u else none) [p] := fun y hy => by
    by_cases z : y = p
    · rw [z]; simp
    · exact absurd (if_neg z) hy
  have sz : s.heap.objs.size ≤ dx := Nat.le_trans (Nat.le_of_lt (by
    obtain ⟨o, es, ep, q1, q2⟩ := n2
    exact Heap.lt_size q1)) dn
  have gdx : ∀ {b : Addr} {o : Obj}, s.heap.get? b = some o → b ≠ dx := fun {b o} z y => by
    have := Heap.lt_size z
    rw [y] at this
    exact Nat.lt_irrefl _ (Nat.lt_of_lt_of_le this sz)
  have Ldx : s.heap.objs.size ≠ dx := fun z => by
    obtain ⟨o, es, ep, q1, q2⟩ := n2
    have := Heap.lt_size q1
    rw [z] at this
    exact Nat.lt_irrefl _ (Nat.lt_of_lt_of_le this dn)
  refine ks_wpAt_execs_cons ?_
  refine ks_wpAt_Assign_Attr ?_ (by rfl)
  refine wpAt_of_wpAny (nameQ _ _ _ _ _ n3 ?_)
  refine wpAny_Name (wpAny_loadName_local (env := ksEnv qual scope s.heap.objs.size f (.ref cda) cc) S.kind l0 n3 mself ?_) d0
  refine exc_set2 T X3 he3 hx3 hw (by simp) no2 fun h4 tk4 kp4 hx4 => ?_
  refine wpAt_of_wpAny (wpAny_execs_nil ?_)
  refine h h4 tk4 dx (fun b o nb ob => kp4 b o (gdx ob) (kp3 b o nb (kp2 b o nb (kp b o ob)))) sz ⟨⟨t1, kp4 _ _ (Ne.symm dne) he3⟩, ?_⟩
  have ef : (fun y => if y = q then some v else if y = p then some u else none) = fun y => ([(q, v), (p, u)] : List (Str × Value)).lookup y := by
    funext y
    by_cases z : y = q
    · subst z; simp [List.lookup]
    · have a1 : (y == q) = false := by simpa using z
      by_cases z2 : y = p
      · subst z2; simp [List.lookup, a1, z]
      · have a2 : (y == p) = false := by simpa using z2
        simp [List.lookup, a1, a2, z, z2]
  rw [← ef]
  exact hx4
end
end DS
end
section
set_option maxRecDepth 100000
set_option maxHeartbeats 1000000
/-! DX3: C(..) makes an exception; raise. -/
namespace DS
open PySem PySem.Spec PyProof.Rows L2
/-- the class at C makes exceptions with fields ps -/
def XCls (P : Program) (w : World) (K : KF) (C : Addr) (ps : List Str) : Prop := ∃ (f : Addr) (params : Arguments) (body : List Stmt) (scope : Scope), InitK P K C f params body scope ∧ ps.Nodup ∧ 1 ≤ ps.length ∧ ps.length ≤ 100 ∧
  ∀ (A : Around) (s : Shared) (e t0 : Addr) (mg mb : Str → Option Value) (us : List Value) (R : Result → Shared → Prop), K.In s.heap → s.heap.NoLimit → s.heap.Ns mainGlobals mg → s.heap.Ns builtinsNs mb → (∀ x : Str, x ≠ "__name__" → mb x = bootBuiltins x) → A.depth < recursionLimit →
    s.heap.get? e = some (HandSPX.excO C t0) → K.lookup e = none → us.length = ps.length →
    (∀ (h' : Heap) (tk : Nat) (dx : Addr), (∀ b o, b ≠ e → s.heap.get? b = some o → h'.get? b = some o) → s.heap.objs.size ≤ dx → ExcAt h' C e dx (ps.zip us) → R (.ok (.ret .none)) { s with heap := h', toks := tk }) →
    codeAny (model P w) A (.call (.ref f) ⟨.ref e :: us, []⟩) R s
section
variable {P : Program} {w : World} {K : KF} {C f : Addr} {params : Arguments} {body : List Stmt} {scope : Scope}
/-- the text of the method call in an __init__ -/
def EvK (scope : Scope) (es : List Expr) (p0 p1 p2 p3 p4 : Pos) : Prop := ∃ pl : Sem Bool, (∀ (qual : Str) (L f : Addr) (cd : Value) (cc : Addr), eval (.Call (.Attribute (.Call (.Name "super" p0) [] [] p1) "__init__" p2) es [] p3) (PySem.W.ksEnv qual scope L f cd cc) = (do
      let ov ← attributeBase (.Call (.Name "super" p0) [] [] p1) "__init__" (PySem.W.ksEnv qual scope L f cd cc) (eval (.Call (.Name "super" p0) [] [] p1) (PySem.W.ksEnv qual scope L f cd cc))
      standAt p2.atName
      let (f', first) ← holding [ov] (getMethod ov "__init__" pl)
      callWith p3 f' first (backTo p3 (starEach es (PySem.W.ksEnv qual scope L f cd cc))) [])) ∧
    ∀ (qual : Str) (L f : Addr) (cd : Value) (cc : Addr), swapsWith (.Call (.Attribute (.Call (.Name "super" p0) [] [] p1) "__init__" p2) es [] p3) none p4.line (PySem.W.ksEnv qual scope L f cd cc) = pure false
theorem xcls1 {self p : Str} {p0 p1 p2 p3 p4 p5 p6 p7 p8 p9 : Pos} (T : InitK P K C f params body scope) (S : TextK params scope self [p])
    (hb : body = [.Expr (.Call (.Attribute (.Call (.Name "super" p0) [] [] p1) "__init__" p2) [.Name p p5] [] p3) p4, .Assign [.Attribute (.Name self p6) p p7] (.Name p p8) p9])
    (ev : EvK scope [.Name p p5] p0 p1 p2 p3 p4) (no : PySem.W.findIn K (.ref C) p = some none) : XCls P w K C [p] := by
  refine ⟨f, params, body, scope, T, by simp, by simp, by simp, fun A s e t0 mg mb us R X lim hG hB hbb room he hK hl h => ?_⟩
  obtain ⟨pl, ev, sw⟩ := ev
  match us, hl with
  | [u], _ => exact init_run1 T S hb ev sw X lim hG hB hbb room he hK no h
theorem xcls2 {self p q : Str} {p0 p1 p2 p3 p4 p5 p6 p7 p8 p9 r5 r6 r7 r8 r9 : Pos} (T : InitK P K C f params body scope) (S : TextK params scope self [p, q])
    (hb : body = [.Expr (.Call (.Attribute (.Call (.Name "super" p0) [] [] p1) "__init__" p2) [.Name p p5, .Name q r5] [] p3) p4, .Assign [.Attribute (.Name self p6) p p7] (.Name p p8) p9, .Assign [.Attribute (.Name self r6) q r7] (.Name q r8) r9])
    (ev : EvK scope [.Name p p5, .Name q r5] p0 p1 p2 p3 p4) (no : PySem.W.findIn K (.ref C) p = some none) (no2 : PySem.W.findIn K (.ref C) q = some none) : XCls P w K C [p, q] := by
  have nd := S.nd
  simp only [List.nodup_cons, List.mem_cons, List.not_mem_nil, or_false, not_or, not_false_eq_true, List.nodup_nil, and_true] at nd
  refine ⟨f, params, body, scope, T, by simp [nd.2], by simp, by simp, fun A s e t0 mg mb us R X lim hG hB hbb room he hK hl h => ?_⟩
  obtain ⟨pl, ev, sw⟩ := ev
  match us, hl with
  | [u, v], _ =>
    refine init_run2 T S hb ev sw X lim hG hB hbb room he hK no no2 fun h' tk dx k sz ea => h h' tk dx k sz ⟨ea.1, ?_⟩
    have ef : (fun y => ([(q, v), (p, u)] : List (Str × Value)).lookup y) = fun y => ([p, q].zip [u, v]).lookup y := by
      funext y
      by_cases z : y = q
      · subst z
        have : (y == p) = false := by simpa using Ne.symm nd.2
        simp [List.lookup, this]
      · have a1 : (y == q) = false := by simpa using z
        by_cases z2 : y = p
        · subst z2; simp [List.lookup, a1]
        · have a2 : (y == p) = false := by simpa using z2
          simp [List.lookup, a1, a2]
    rw [← ef]
    exact ea.2
end
theorem relO_zip : ∀ {ps : List Str} {vs : List V} {us : List Value}, Vals vs us → ∀ f, RelO ((ps.zip vs).lookup f) ((ps.zip us).lookup f)
  | [], _, _, _, f => by simp [RelO]
  | p :: ps, _, _, .nil, f => by simp [RelO]
  | p :: ps, _, _, .cons r rs, f => by
    simp only [List.zip_cons_cons, List.lookup]
    split
    · exact r
    · exact relO_zip rs f
section
variable {X : Cx} {x : Str} {C : Addr} {ps : List Str} {p pos : Pos} {e : Expr} {es : List Expr} {t : TA}
theorem pmk_leaf {k : Nat} (Z : XCls X.prog X.w X.K C ps) (hr : Room (k + 1) X.A) (hg : Gl X x) (hm : X.mg x = some (.ref C)) (ha : PA X (e :: es) t) (hdb : (x == ("__debug__" : Str)) = false := by decide)
    (he : starEach (e :: es) X.env = (false, eval e X.env) :: starEach es X.env := by rfl) (hpl : (backTo pos (starEach es X.env)).any (·.1) = false := by rfl) :
    L2N.PMk X (.Call (.Name x p) (e :: es) [] pos) (fun σ H Q => t σ H fun vs H1 => vs.length = ps.length ∧ ∀ d, H1 d = none → Q (.ref C) (some d) (upd H1 d (.xd (ps.zip vs)))) := by
  obtain ⟨f, params, body, scope, T, nd, l1, l2, run⟩ := Z
  intro pins s σ H Q I h
  obtain ⟨nm, q, N, bs, bm, sn, sub, ab, col, dd, k0, k1, k2, k3, k5, hC, hbm⟩ := T.cls.cls
  apply wpAny_Call_Name_kw
  refine ld_glob I hg hm ?_ hdb
  refine PySem.W.callWith_K (h₀ := X.base) I.ok.mod.kin T.cls.kC (thn (ha.run pos pins s σ H _ I h) fun us s1 got => ?_) he hpl
  obtain ⟨vs, H1, I1, r1, hl, q1⟩ := got
  constructor
  · exact I1.kIn
  show wpAny _ _ (call (.ref C) us) _ _ _
  obtain ⟨hp, g, dr, tk, os⟩ := s1
  have ul : us.length = ps.length := r1.length.symm.trans hl
  have kk : ∀ b o, hp.get? b = some o → ((hp.push (PySem.W.kdv_tup us)).push (PySem.HandSPX.excO C hp.objs.size)).get? b = some o := fun b o z => Heap.get?_push_of_some _ (Heap.get?_push_of_some _ z)
  have hget : ((hp.push (PySem.W.kdv_tup us)).push (PySem.HandSPX.excO C hp.objs.size)).get? (hp.objs.size + 1) = some (PySem.HandSPX.excO C hp.objs.size) := by heap_get
  have hK : X.K.lookup (hp.objs.size + 1) = none := by
    cases z : X.K.lookup (hp.objs.size + 1) with
    | none => rfl
    | some o => exact absurd (Heap.lt_size (I1.kIn _ _ z)) (by show ¬ hp.objs.size + 1 < hp.objs.size; omega)
  have hus : us.length ≤ sizeLine := by rw [sizeLine_eq]; omega
  obtain ⟨mb, hB, hbb⟩ := I.ok.mod.blt
  apply wpAny_call
  refine PySem.HandSPX.call_own F.excBase_ValueError (fun Y => PySem.HandSPX.refsVE_contains Y bm hbm) (I1.kIn _ _ hC) (PySem.W.looks_findIn I1.kIn T.init) (fun self => PySem.W.bind_fn I1.kIn self T.fnT) hus ?_
  refine run _ ⟨(hp.push (PySem.W.kdv_tup us)).push (PySem.HandSPX.excO C hp.objs.size), g, dr, tk, os⟩ _ _ X.mg mb us _ (I1.kIn.keeps kk) (I1.nolimit.keeps kk) ((I1.ok.mod.glob.keeps I1.bk).keeps kk) ((hB.keeps I1.bk).keeps kk) hbb (hr.make C us []).depth hget hK ul fun h' tk' dx keep sz ea => ?_
  obtain ⟨⟨t1, hoe⟩, hns⟩ := ea
  have szh : ((hp.push (PySem.W.kdv_tup us)).push (PySem.HandSPX.excO C hp.objs.size)).objs.size = hp.objs.size + 2 := by simp [Heap.push]
  have sz2 : hp.objs.size + 2 ≤ dx := by
    rw [← szh]
    exact sz
  obtain ⟨G, g1, g2⟩ := L2.restrict h' fun b => decide (b ≠ hp.objs.size + 1)
  have gk : ∀ b, b ≠ hp.objs.size + 1 → G.get? b = h'.get? b := fun b nb => g1 b (decide_eq_true nb)
  have ge : G.get? (hp.objs.size + 1) = none := g2 _ (by simp)
  have old : ∀ {b : Addr} {o : Obj}, hp.get? b = some o → b ≠ hp.objs.size + 1 := fun {b o} z y => by
    have z1 : b < hp.objs.size := Heap.lt_size z
    rw [y] at z1
    exact absurd z1 (Nat.not_lt.mpr (Nat.le_succ _))
  have kG : ∀ b o, hp.get? b = some o → G.get? b = some o := fun b o z => by
    rw [gk b (old z)]
    exact keep b o (old z) (kk b o z)
  have dne : dx ≠ hp.objs.size + 1 := fun z => by
    rw [z] at sz2
    exact absurd sz2 (Nat.not_succ_le_self _)
  have dsz : hp.objs.size ≤ dx := Nat.le_trans (Nat.le_add_right _ 2) sz2
  have nsG : G.Ns1 dx fun y => (ps.zip us).lookup y := hns.at fun o z => (gk dx dne).trans z
  have J := I1.laid (t' := tk') (a := dx) (o := .xd (ps.zip vs)) (h' := G) kG dsz ⟨_, nsG, relO_zip r1⟩
  have na : upd H1 dx (.xd (ps.zip vs)) (hp.objs.size + 1) = none := by
    rw [upd_ne (Ne.symm dne)]
    exact I1.hok.fresh (Nat.le_succ _)
  constructor
  · trivial
  exact ⟨hp.objs.size + 1, _, _, ⟨G, g, dr, tk', os⟩, _, .ref C, some dx, rfl, J, (fun b o z => by
      by_cases nb : b = hp.objs.size + 1
      · rw [nb, ge] at z; cases z
      · exact (gk b nb).symm.trans z), ge, hoe, ⟨rfl, rfl, fun vs z => by cases z; rfl⟩, rfl, rfl, na, rfl, J.bare, raises_own T.cls.exC T.cls.tyC, q1 dx (I1.hok.fresh dsz)⟩
/-- raise C(..), a def's own -/
theorem ps_raiseC {E : XK} {rpos : Pos} {k : Nat} (hc : X.calm = true) (tk : L2N.Takes X fun cls d _ H => E cls d H) (Z : XCls X.prog X.w X.K C ps) (hr : Room (k + 1) X.A) (hg : Gl X x) (hm : X.mg x = some (.ref C)) (ha : PA X (e :: es) t) (hdb : (x == ("__debug__" : Str)) = false := by decide)
    (he : starEach (e :: es) X.env = (false, eval e X.env) :: starEach es X.env := by rfl) (hpl : (backTo pos (starEach es X.env)).any (·.1) = false := by rfl) :
    PS X (.Raise (some (.Call (.Name x p) (e :: es) [] pos)) none rpos) (fun _ σ H => t σ H fun vs H1 => vs.length = ps.length ∧ ∀ d, H1 d = none → E (.ref C) (some d) (upd H1 d (.xd (ps.zip vs)))) :=
  L2N.ps_raise hc tk (pmk_leaf Z hr hg hm ha hdb he hpl)
end
end DS
end
section
set_option maxRecDepth 100000
set_option maxHeartbeats 1000000
/-! DX4: raise over data; what the head tells of a class of exceptions. -/
namespace DS
open PySem PySem.Spec PyProof.Rows L2
def sRaise (c : Str) (fs : List Str) (fa : FX (List D)) : FSt := fun Ed _ δ => fa Ed δ fun ds δ' => ds.length = fs.length ∧ Ed ⟨c, fs, ds⟩ δ'.n
theorem takesDef {X : Cx} {E : XK} (hs : X.stack = X.env :: X.outer := by rfl) (hf : X.env.frame = some X.env.locals := by rfl) (hex : X.ex = [] := by rfl) {E₁ : Value → Shared → Prop}
    (hx : X.xe = fun e s' => wpAny (model X.prog X.w) X.A (leaving X.env e) (fun _ s'' => L2N.CX X.prog X.w X.outer X.H_0 X.s_0 E e s'') E₁ s' := by rfl) : L2N.Takes X fun cls d _ H => E cls d H := L2N.takes_of (E := E) hs hf hex hx
section
variable {X : Cx} {E : XK} {x : Str} {ps : List Str} {p pos rpos : Pos} {e : Expr} {es : List Expr} {k : Nat}
theorem zip_fst : ∀ {ps : List Str} {vs : List V}, vs.length = ps.length → (ps.zip vs).map (·.1) = ps ∧ (ps.zip vs).map (·.2) = vs
  | [], [], _ => ⟨rfl, rfl⟩
  | p :: ps, v :: vs, h => by
    obtain ⟨a, b⟩ := zip_fst (ps := ps) (vs := vs) (by simpa using h)
    simp only [List.zip_cons_cons, List.map_cons, a, b, and_self]
theorem ds_raise {fa : FX (List D)} (Z : XCls X.prog X.w X.K (He.ga X.K x) ps) (hc : X.calm = true) (hr : Room (k + 1) X.A) (hg : Gl X x) (hm : X.mg x = some (.ref (He.ga X.K x))) (ha : DA X E (e :: es) fa)
    (tk : L2N.Takes X (fun cls d _ H => E cls d H) := by exact takesDef) (hdb : (x == ("__debug__" : Str)) = false := by decide)
    (he : starEach (e :: es) X.env = (false, eval e X.env) :: starEach es X.env := by rfl) (hpl : (backTo pos (starEach es X.env)).any (·.1) = false := by rfl) :
    DSt X E (.Raise (some (.Call (.Name x p) (e :: es) [] pos)) none rpos) (sRaise x ps fa) :=
  PS.imp (ps_raiseC hc tk Z hr hg hm ha hdb he hpl) fun D σ H got => by
    obtain ⟨G, F, δ, Dd, Ed, eK, I, hf, hx, kk⟩ := got
    refine ⟨G, F, δ, _, Ed, eK, I, hf, hx, fun ds δ1 F1 H1 vs q I1 s1 r1 => ?_⟩
    obtain ⟨ql, qe⟩ := q
    have r1' : RepAll G.K G.pa F1 H1 vs ds := r1
    have vl : vs.length = ps.length := by rw [r1'.len]; exact ql
    refine ⟨vl, fun d nd => ?_⟩
    obtain ⟨z1, z2⟩ := zip_fst vl
    have := hx ⟨x, ps, ds⟩ F1 (upd H1 d (.xd (ps.zip vs))) δ1.n d (ps.zip vs) qe (I1.bas.alloc nd) (I1.bas.free nd).1 upd_same z1 (by rw [z2]; exact r1'.ext (ext_upd I1.bas.trk nd))
    rw [eK] at this
    exact this
end
/-! ### the head -/
def iAd (K : KF) (x : Str) : Addr := He.ma K (He.ga K x) "__init__"
abbrev InW : Type := Option (Arguments × FuncBody × Scope × Addr × List Str × Addr × Value)
def initW (K : KF) (x : Str) : InW := match K.lookup (iAd K x) with
  | some ⟨_, _, .func fd, _⟩ => some (fd.params, fd.body, fd.scope, fd.globals, fd.closure.map (·.1), fd.builtins, fd.defaults)
  | _ => none
def inW (params : Arguments) (body : List Stmt) (scope : Scope) : InW := some (params, .stmts body, scope, mainGlobals, ["__class__"], builtinsNs, .none)
def clsB (K : KF) (C : Addr) : Bool := match K.lookup C with
  | some ⟨.type "type", _, .cls cd, sl⟩ => (match cd.mro, sl.toList with
    | .ref C' :: bm, [_, _, _, _, some (.builtin n), _] => C' == C && n == "ValueError.__new__" && cd.hasDict && !cd.hasDel && PySem.HandSPX.refsVE bm
    | _, _ => false)
  | _ => false
def fnB (P : Program) (K : KF) (C f : Addr) : Bool := match K.lookup f with
  | some ⟨_, _, .func fd, _⟩ => PySem.W.codeIn K fd.code fd.qualname && (match fd.code, fd.closure with
    | .ref cda, [(_, cc)] => (match K.lookup cda with
      | some ⟨_, _, .fields vs, _⟩ => (match (vs[2]? : Option Value) with
        | some (.str file _) => (P.main.file : Str) == file
        | _ => false)
      | _ => false) && (match K.lookup cc with
      | some ⟨_, _, .cell (some (.ref D)), _⟩ => D == C
      | _ => false)
    | _, _ => false)
  | _ => false
def leafB (P : Program) (K : KF) (x : Str) (ps : List Str) : Bool :=
  clsB K (He.ga K x) && fnB P K (He.ga K x) (iAd K x) && PySem.W.findIn K (.ref (He.ga K x)) "__setattr__" == some (some (.builtin "object.__setattr__")) && PySem.W.subIn K (.ref (He.ga K x)) (.type "BaseException") == some true &&
  PySem.W.typeIn K (.ref (He.ga K x)) == some (.type "type") && PySem.W.keepIn K (.ref (He.ga K x)) && PySem.W.findIn K (.ref (He.ga K x)) "__init__" == some (some (.ref (iAd K x))) && PySem.W.typeIn K (.ref (iAd K x)) == some (.type "function") &&
  PySem.W.nsIn K mainGlobals "super" == some none && PySem.W.nsIn K cStatics "thirdparty.any" == some none && PySem.W.subIn K (.ref (He.ga K x)) (.type "ValueError") == some true && PySem.W.mroIn K (He.ga K x) (.ref (He.ga K x)) == some true &&
  PySem.W.ks_superIn K (He.ga K x) (He.ga K x) "__init__" == some (some (.builtin "ValueError.__init__")) && ps.all fun p => PySem.W.findIn K (.ref (He.ga K x)) p == some none
theorem clsB_ok {K : KF} {C : Addr} (h : clsB K C = true) : ∃ nm q N bs bm sn sub ab col dd k0 k1 k2 k3 k5, K.lookup C = some (excClassObj nm q C N bs bm true sn sub ab col dd k0 k1 k2 k3 k5 "ValueError.__new__") ∧ PySem.HandSPX.refsVE bm = true := by
  unfold clsB at h
  split at h
  · rename_i dd cd sl hl
    split at h
    · rename_i C' bm k0 k1 k2 k3 n k5 hm hs
      simp only [Bool.and_eq_true, beq_iff_eq, Bool.not_eq_true'] at h
      obtain ⟨⟨⟨⟨h1, h2⟩, h3⟩, h4⟩, h5⟩ := h
      obtain ⟨nm, bs, mro, ns, qn, hd, sn, sb, ab, col, del⟩ := cd
      dsimp only at hm h3 h4
      subst h1 h2 h3 h4 hm
      have : sl = #[k0, k1, k2, k3, some (.builtin "ValueError.__new__"), k5] := by rw [← Array.toList_inj, hs]
      subst this
      exact ⟨_, _, _, _, _, _, _, _, _, _, _, _, _, _, _, hl, h5⟩
    · cases h
  · cases h
theorem leaf_ok {P : Program} {K : KF} {x : Str} {ps : List Str} {params : Arguments} {body : List Stmt} {scope : Scope} (h : leafB P K x ps = true) (w : initW K x = inW params body scope) (top : (P.main.scope.names.lookup ("super" : Str)).isSome = false) :
    InitK P K (He.ga K x) (iAd K x) params body scope ∧ ∀ p ∈ ps, PySem.W.findIn K (.ref (He.ga K x)) p = some none := by
  unfold leafB at h
  simp only [Bool.and_eq_true, beq_iff_eq, List.all_eq_true] at h
  obtain ⟨⟨⟨⟨⟨⟨⟨⟨⟨⟨⟨⟨⟨h1, h2⟩, h3⟩, h4⟩, h5⟩, h6⟩, h7⟩, h8⟩, h9⟩, h10⟩, h11⟩, h12⟩, h13⟩, h14⟩ := h
  refine ⟨⟨⟨clsB_ok h1, h3, h4, h5, h6⟩, h7, h8, ?_, h9, h10, h11, h12, h13, top⟩, h14⟩
  unfold fnB at h2
  unfold initW inW at w
  cases q : K.lookup (iAd K x) with
  | none => rw [q] at h2; cases h2
  | some o =>
    obtain ⟨oc, od, dt, osl⟩ := o
    rw [q] at h2 w
    cases dt with
    | func fd =>
      obtain ⟨n1, n2, n3, n4, n5, n6, n7, n8, n9, n10, n11, n12, n13, n14, n15⟩ := fd
      have e2 : (some (n3, n4, n5, n6, n7.map (·.1), n15, n8) : InW) = (some (params, FuncBody.stmts body, scope, mainGlobals, ["__class__"], builtinsNs, Value.none) : InW) := w
      simp only [Option.some.injEq, Prod.mk.injEq] at e2
      obtain ⟨a1, a2, a3, a4, a5, a6, a7⟩ := e2
      subst a1 a2 a3 a4 a6 a7
      obtain ⟨c1, c2⟩ := Bool.and_eq_true_iff.mp h2
      dsimp only at c2
      match n7, a5 with
      | [(s0, cc)], a5 =>
        simp only [List.map_cons, List.map_nil, List.cons.injEq, and_true] at a5
        subst a5
        cases n13 with
        | ref cda =>
          dsimp only at c2
          obtain ⟨c3, c4⟩ := Bool.and_eq_true_iff.mp c2
          split at c3
          · rename_i ccl cdd vs ccs hcda
            split at c3
            · rename_i file tf hv
              split at c4
              · rename_i cl cld D csl hcc
                have : D = He.ga K x := by simpa using c4
                subst this
                exact ⟨oc, od, n1, n2, n9, n10, n11, n12, cda, n14, cc, osl, vs, file, tf, ccl, cdd, ccs, cl, cld, csl, rfl, c1, hcda, hv, c3, hcc⟩
              · cases c4
            · cases c3
          · cases c3
        | _ => cases c2
    | _ => cases h2
end DS
end
section
set_option maxRecDepth 100000
set_option maxHeartbeats 1000000
/-! DX5: a lambda is made: with no parameter, or with one that has a whole number for its default. -/
namespace DS
open PySem PySem.Spec PyProof.Rows L2
abbrev lamO (q : Str) (params : Arguments) (body : Expr) (scope : Scope) (cl : List (Str × Addr)) (dV doc pm : Value) (c' : Addr) (ctv : Value) : Obj := PySem.W.kdv_obj "<lambda>" q params (.expr body) scope cl dV doc pm c' ctv
def DefOk (params : Arguments) (env : Env) : Option Int → Prop
  | none => defaultsOf params env = ([], [])
  | some i => params.kw_defaults = [] ∧ ∃ (k : Nat) (p : Pos), params.defaults = [.Constant (.int i) k p]
/-- where the default stands -/
def DflAt (h : Heap) (H : Hp) (fs : List Addr) (dV : Value) : Option Int → Prop
  | none => dV = .none
  | some i => ∃ (T0 : Addr) (t : Tok), dV = .ref T0 ∧ h.get? T0 = some (PySem.W.kdv_tup [.int i t]) ∧ H T0 = none ∧ T0 ∉ fs
/-- the table is as it was, or has one code object more -/
def TabTo (H : Hp) (P : Addr) (q : Str) (ps : Array Value) (c' : Addr) (H1 : Hp) : Prop :=
  (H1 = H ∧ ∃ pos : Pos, codeAmong pos ps.toList = some (.ref c')) ∨ (H c' = none ∧ ∃ pos : Pos, H1 = upd (upd H P (.tbl (ps ++ #[rawInt pos.line, rawInt pos.col, .ref c']))) c' (LamX.CodeO c' q))
section
variable {X : Cx} {pins : List (Addr × Obj)} {σ : L2.St} {H : Hp} {s : Shared} {q : Str} {c P : Addr} {params : Arguments} {body : Expr} {scope : Scope} {pos : Pos} {ps : Array Value} {E : Value → Shared → Prop} {Q : Value → Shared → Prop}
theorem fresh_fr (I : Inv X pins σ H s) {f : Addr} (hf : s.heap.objs.size ≤ f) : f ∉ frs X.stack := fun z => by
  rcases List.mem_cons.mp (I.stkSub _ z) with e | e
  · have h1 := I.lt
    rw [← e] at h1
    exact absurd h1 (Nat.not_lt.mpr hf)
  · exact I.nofs hf e
theorem lam_tail {dV : Value} (I : Inv X pins σ H s) (TB : LamX.TabB X.base X.mg c P) (hcode : X.env.code = .ref c) (hP : H P = some (.tbl ps)) (ht : TriplesOk ps.toList)
    (hin : ∀ (pos : Pos) (cv : Value), codeAmong pos ps.toList = some cv → ∃ c0, cv = .ref c0 ∧ H c0 = some (LamX.CodeO c0 q)) (hfree : ∀ y ∈ scope.names, y.2 = .free → ∃ c, X.env.cells.lookup y.1 = some c)
    (h : ∀ (f c' : Addr) (doc pm ctv : Value) (H1 : Hp) (s' : Shared), Inv X pins σ H1 s' → TabTo H P q ps c' H1 → (∀ b o, b ≠ P → s.heap.get? b = some o → s'.heap.get? b = some o) → (∀ b, b < s.heap.objs.size → H b = none → H1 b = none) →
      s'.heap.get? f = some (lamO q params body scope (cloFrom X.env.cells scope.names []) dV doc pm c' ctv) → H1 f = none → f ∉ frs X.stack → H1 c' = some (LamX.CodeO c' q) → Q (.ref f) s') :
    wpAny (model X.prog X.w) X.A (makeTail "<lambda>" q params (.expr body) scope X.env dV .none none pos pos.line) Q E s := by
  have bP : s.heap.BuiltinsAt X.mg P := TB.bm.keeps I.bk
  have hP' : s.heap.get? P = some (PySem.W.tabObj ps) := I.hok P _ hP
  cases hc : codeAmong pos ps.toList with
  | some cv =>
    obtain ⟨c', rfl, hco⟩ := hin pos cv hc
    refine PySem.W.kdv_makeTailHit (mg := X.mg) (closure_ok hfree) I.ok.glob (I.mod.glob.keeps I.bk) hcode (TB.code.keeps I.bk) hP' ht hc bP fun ctv doc h' tk hx hsz => ?_
    have kk : ∀ b o, s.heap.get? b = some o → (h'.push (lamO q params body scope (cloFrom X.env.cells scope.names []) dV doc ((X.mg "__name__").getD .none) c' ctv)).get? b = some o := fun b o e => Heap.get?_push_of_some _ (hx b o e)
    exact h h'.objs.size c' doc ((X.mg "__name__").getD .none) ctv H _ (I.kept kk) (.inl ⟨rfl, pos, hc⟩) (fun b o _ => kk b o) (fun _ _ z => z) (Heap.get?_push_size _ rfl) (I.hok.fresh hsz) (fresh_fr I hsz) hco
  | none =>
    refine PySem.W.kdv_makeTail (mg := X.mg) (closure_ok hfree) I.ok.glob (I.mod.glob.keeps I.bk) hcode (TB.code.keeps I.bk) hP' ht hc TB.gP bP fun c' ctv doc h' tk hx hge hlt hrec htb => ?_
    obtain ⟨c2, oc, vs, t, e2, hoc, hd, hv⟩ := hrec
    cases e2
    have hsz : s.heap.objs.size ≤ h'.objs.size := Nat.le_trans hge (Nat.le_of_lt hlt)
    have nC : H c' = none := I.hok.fresh hge
    have kk : ∀ b o, b ≠ P → s.heap.get? b = some o → (h'.push (lamO q params body scope (cloFrom X.env.cells scope.names []) dV doc ((X.mg "__name__").getD .none) c' ctv)).get? b = some o := fun b o nb e => Heap.get?_push_of_some _ (hx b o nb e)
    have J := LamX.inv_table (q := q) (t' := tk) (more := #[rawInt pos.line, rawInt pos.col, .ref c']) (h' := h'.push (lamO q params body scope (cloFrom X.env.cells scope.names []) dV doc ((X.mg "__name__").getD .none) c' ctv)) I hP kk
      (Heap.get?_push_of_some _ htb) hge ⟨oc, vs, t, Heap.get?_push_of_some _ hoc, hd, hv⟩
    refine h h'.objs.size c' doc ((X.mg "__name__").getD .none) ctv _ _ J (.inr ⟨nC, pos, rfl⟩) kk (fun b lt n => ?_) (Heap.get?_push_size _ rfl) ?_ (fresh_fr I hsz) upd_same
    · rw [upd_ne (Nat.ne_of_lt (Nat.lt_of_lt_of_le lt hge)), upd_ne (fun z => by rw [z, hP] at n; cases n)]
      exact n
    rw [upd_ne (Nat.ne_of_gt hlt), upd_ne (Nat.ne_of_gt (Nat.lt_of_lt_of_le (Heap.lt_size hP') hsz))]
    exact I.hok.fresh hsz
end
end DS
end
section
set_option maxRecDepth 100000
set_option maxHeartbeats 1000000
/-! DX6: what is read of a caught exception: its class, its fields. -/
namespace DS
open PySem PySem.Spec PyProof.Rows L2
/-- what is asked of a class whose exceptions are read -/
structure ExcR (K : KF) (D : Addr) : Prop where
  c : L2.ExcC K D
  x : L2.XfC K D
def excRB (K : KF) (D : Addr) : Bool := PySem.W.findIn K (.ref D) "__getattribute__" == some (some (.builtin "BaseException.__getattribute__")) && PySem.W.findIn K (.ref D) "__getattr__" == some none && PySem.W.subIn K (.ref D) (.type "BaseException") == some true && PySem.W.hasDictIn K D &&
  PySem.W.findIn K (.ref D) "__class__" == some (some (.builtin "object.__class__")) && PySem.W.specialIn K (.builtin "object.__class__") "__get__" == some (some (.builtin "getset_descriptor.__get__")) && PySem.W.takesIn K (.builtin "object.__class__") == some true && PySem.W.mroIn K D (.type "object") == some true
theorem excRB_ok {K : KF} {D : Addr} (h : excRB K D = true) : ExcR K D := by
  unfold excRB at h
  simp only [Bool.and_eq_true, beq_iff_eq] at h
  obtain ⟨⟨⟨⟨⟨⟨⟨h1, h2⟩, h3⟩, h4⟩, h5⟩, h6⟩, h7⟩, h8⟩ := h
  exact ⟨⟨h1, h2, h3, h4, h5, h6, h7, h8⟩, ⟨h1, h2, h3, h4⟩⟩
section
variable {prog : Program} {w : World} {A : Around} {E : Value → Shared → Prop} {s : Shared} {K : KF} {x D : Addr} {ox od : Obj}
theorem ask_class {Q : Option Value → Shared → Prop} (R : ExcR K D) (inK : K.In s.heap) (it : PySem.W.InstAt s.heap x ox D (some od)) (done : Q (some (.ref D)) { s with toks := s.toks + 1 }) : wpAny (model prog w) A (getAttr? (.ref x) "__class__") Q E s := by
  have found : PySem.W.findObj K D (some od) "__class__" = some (.bind (.builtin "getset_descriptor.__get__") (.builtin "object.__class__")) := PySem.W.findObj_data (by obtain ⟨cd, e, _⟩ := PySem.W.any_some R.c.hd; rw [e]; rfl) R.c.ha R.c.hn R.c.ht
  obtain ⟨heap0, gs0, dr0, tk0, os0⟩ := s
  have tyx := it.type (M := model prog w)
  have getter := PySem.W.looks_findIn (M := model prog w) inK R.c.hg
  have noHook := PySem.W.looks_findIn (M := model prog w) inK R.c.hk
  have seen := PySem.W.looks_find (M := model prog w) inK it found
  have isB : PySem.W.Looks (model prog w) heap0 (isInstance (.ref x) (.type "BaseException")) true := tyx.andThen (PySem.W.looks_subIn inK R.c.hs)
  have diff : (Value.builtin "BaseException.__getattribute__" == Value.builtin "object.__getattribute__") = false := by decide +kernel
  have offH : (onTheHeap (Value.ref D) && Value.builtin "BaseException.__getattribute__" == Value.builtin "object.__getattribute__") = false := by rw [diff]; rfl
  have plainB : (false && onTheHeap (Value.builtin "BaseException.__getattribute__")) = false := rfl
  unfold getAttr? getAttrBy? getAttrBy
  refine wpAny_bind (wpAny_mkText (wpAny_bind (wpAny_attempt (wpAny_holding (wpAny_bind (tyx.at (wpAny_bind (getter.at ?_))))))))
  change wpAny _ _ (if (onTheHeap (Value.ref D) && Value.builtin "BaseException.__getattribute__" == Value.builtin "object.__getattribute__") = true then _ else _) _ _ _
  rw [offH, if_neg Bool.false_ne_true]
  unfold getAttrByItsOwn hookBefore
  apply wpAny_bind
  rw [if_pos (show onTheHeap (Value.ref D) = true from rfl)]
  apply noHook.at
  refine wpAny_bind (wpAny_attempt (wpAny_holding ?_))
  unfold callGetattribute
  rw [plainB, if_neg Bool.false_ne_true]
  unfold boundAndCalled
  rw [PySem.F.excAttr_ValueError.ga.bind (.ref x)]
  apply wpAny_bind
  apply wpAny_pure
  change wpAny _ _ (call (.builtin "BaseException.__getattribute__") [.ref x, .str "__class__" tk0]) _ _ _
  apply wpAny_call
  refine codeAny_call_builtin PySem.F.excAttr_ValueError.ga.plain PySem.F.entry_bexc_ga ?_
  refine @PySem.W.check_slot (model prog w) _ _ ⟨heap0, gs0, dr0, tk0 + 1, os0⟩ "BaseException.__getattribute__" "BaseException" "__getattribute__" (.ref x) [.str "__class__" tk0] [] _ (by decide +kernel) (by decide +kernel) isB (PySem.F.args_bexc_ga (.ref x) (.str "__class__" tk0)) ?_
  unfold Builtin.«object.__getattribute__»
  refine wpAny_bind (wpAny_of_eq (a := ((Value.ref x : Value), [Value.str "__class__" tk0])) (by first | rfl | (simp only [slotArgs]; rfl)) ?_)
  refine wpAny_bind (wpAny_pure (wpAny_bind (tyx.at (wpAny_bind (seen.at ?_)))))
  change wpAny _ _ (holding [Value.builtin "object.__class__"] (call (.builtin "getset_descriptor.__get__") [.builtin "object.__class__", .ref x, .ref D]) >>= ret) _ _ _
  refine wpAny_bind (wpAny_holding (wpAny_call (PySem.W.class_get (s := ⟨heap0, gs0, dr0, tk0 + 1, os0⟩) (ox := ox) (od := some od) inK it R.c.hm ?_)))
  apply wpAny_pure
  change wpAny _ _ (handedOut (.ref D)) _ _ _
  rw [PySem.W.handedOut_of (v := .ref D) rfl]
  first
    | exact wpAny_pure (wpAny_pure done)
    | exact wpAny_pure done
    | exact wpAny_pure (wpAny_bind (wpAny_pure (wpAny_pure done)))
theorem kitX_exc (R : ExcR K D) : PySem.W.KitX K (.ref x) (.ref D) (fun h => ∃ ox od, PySem.W.InstAt h x ox D (some od)) where
  ty := fun _ _ _ ⟨_, _, it⟩ => it.type
  it := fun _ _ inK _ => by
    obtain ⟨cd, e, _⟩ := PySem.W.any_some R.c.hd
    unfold PySem.W.clsIn at e
    split at e
    · rename_i lk
      intro A' Q' E' s' keep q
      unfold isType loadHead
      exact wpAny_bind (wpAny_loadPart (keep _ _ (inK _ _ lk)) (wpAny_pure q))
    · cases e
  ne := fun h tp dd its n sl inK at_ => by
    obtain ⟨cd, e, _⟩ := PySem.W.any_some R.c.hd
    apply Bool.eq_false_iff.mpr
    intro q
    have same : D = tp := Value.ref.inj (beq_iff_eq.mp q)
    subst same
    unfold PySem.W.clsIn at e
    split at e
    · rename_i lk
      have z := (inK _ _ lk).symm.trans at_
      cases z
    · cases e
  ca := fun inK ⟨_, _, it⟩ done => ask_class R inK it done
end
/-! ### over the tracked heap -/
theorem xo_inst {P : Program} {w : World} {H : Hp} {h : Heap} {a D dx : Addr} {gs : List (Str × V)} (hok : HOk P w H h) (e1 : H a = some (XO D a dx)) (e2 : H dx = some (.xd gs)) : ∃ (ox od : Obj) (mA : Str → Option Value), PySem.W.InstAt h a ox D (some od) ∧ (∀ name, PySem.W.lookIn name od = some (mA name)) ∧ ∀ f, RelO (gs.lookup f) (mA f) := by
  obtain ⟨⟨oe, vs, g1, g2, g3, g4⟩, _, _⟩ := (show ObjOk P w H h a (XO D a dx) from hok a _ e1)
  obtain ⟨mA, ns, rel⟩ := (show ObjOk P w H h dx (.xd gs) from hok dx _ e2)
  obtain ⟨od, o1, o2⟩ := lookIn_ns ns
  exact ⟨oe, od, mA, ⟨g1, g2, by unfold PySem.W.notCls; rw [g4], by rw [g3]; exact o1⟩, o2, rel⟩
def rIsx (K : KF) : List V → Hp → VK → Prop := fun xs H Q => ∃ (a D dx C : Addr) (gs : List (Str × V)) (b : Bool), xs = [.ref a, .ref C] ∧ H a = some (XO D a dx) ∧ H dx = some (.xd gs) ∧ ExcR K D ∧ PySem.W.kitOne K (.ref D) (.ref C) = some b ∧ Q (.bl b) H
def rIsxT (K : KF) : List V → Hp → VK → Prop := fun xs H Q => ∃ (a D dx tp : Addr) (cs : List V) (us : List Value) (gs : List (Str × V)) (b : Bool), xs = [.ref a, .ref tp] ∧ H a = some (XO D a dx) ∧ H dx = some (.xd gs) ∧ ExcR K D ∧ SqT K H tp cs ∧ Paired ClsV cs us ∧ PySem.W.kitAny K (.ref D) us = some b ∧ Q (.bl b) H
section
variable {X : Cx}
theorem call_isx : CallR X (.builtin "isinstance") (rIsx X.K) := by
  intro pins s σ H xs us Q I r h
  obtain ⟨a, D, dx, C, gs, b, rfl, e1, e2, R, e, q⟩ := h
  obtain ⟨u1, u2, rfl, r1, r2⟩ := vals2 r
  cases (show u1 = Value.ref a from r1)
  cases (show u2 = Value.ref C from r2)
  obtain ⟨ox, od, mA, it, _, _⟩ := xo_inst I.hok e1 e2
  exact PySem.W.kia_one (kitX_exc R) I.kIn ⟨ox, od, it⟩ e (fun z => nomatch z) fun tk => ⟨.bl b, H, I.tok tk, rfl, q⟩
theorem call_isxT : CallR X (.builtin "isinstance") (rIsxT X.K) := by
  intro pins s σ H xs us Q I r h
  obtain ⟨a, D, dx, tp, cs, ws, gs, b, rfl, e1, e2, R, hT, k, e, q⟩ := h
  obtain ⟨u1, u2, rfl, r1, r2⟩ := vals2 r
  cases (show u1 = Value.ref a from r1)
  cases (show u2 = Value.ref tp from r2)
  obtain ⟨ox, od, mA, it, _, _⟩ := xo_inst I.hok e1 e2
  obtain ⟨its, rv, ⟨o, h1, h2, n, h3⟩, _⟩ := I.tuple hT
  have same := ClsV.all k rv
  subst same
  obtain ⟨oc, od', dt, sl⟩ := o
  dsimp only at h2 h3
  subst h2 h3
  exact PySem.W.kia_tup (kitX_exc R) I.kIn ⟨ox, od, it⟩ h1 e (fun z => nomatch z) fun tk => ⟨.bl b, H, I.tok tk, rfl, q⟩
/-- the classes of exceptions cs are told apart -/
def ExcS (K : KF) (rs cs : List Str) : Prop := ∀ c ∈ rs, ExcR K (He.ga K c) ∧ ∀ C ∈ cs, PySem.W.kitOne K (.ref (He.ga K c)) (.ref (He.ga K C)) = some (c == C)
def clsOf (cs : List Str) : List D → Option (List Str)
  | [] => some []
  | .cls C :: ds => if C ∈ cs then (clsOf cs ds).map (C :: ·) else none
  | _ :: _ => none
def gIsx (rs cs : List Str) : List D → (Bool × D → Prop) → Prop
  | [.exc c _ _, .cls C], P => c ∈ rs ∧ C ∈ cs ∧ P (false, .bl (c == C))
  | [.exc c _ _, .tup ds], P => c ∈ rs ∧ ∃ Cs, clsOf cs ds = some Cs ∧ P (false, .bl (Cs.any fun C => c == C))
  | _, _ => False
theorem cls_ok {K : KF} {pa : Option Addr} {F : FS} {H : Hp} {cs : List Str} : ∀ {ds : List D} {vs : List V} {Cs : List Str}, RepAll K pa F H vs ds → clsOf cs ds = some Cs → Paired ClsV vs (Cs.map fun C => Value.ref (He.ga K C)) ∧ ∀ C ∈ Cs, C ∈ cs
  | [], _, _, h, e => by cases h; cases e; exact ⟨.nil, by simp⟩
  | d :: ds, _, _, h, e => by
    cases h with
    | cons r t =>
      cases d with
      | cls C =>
        cases r
        unfold clsOf at e
        split at e
        · rename_i hC
          cases e1 : clsOf cs ds with
          | none => rw [e1] at e; cases e
          | some Cs =>
            rw [e1] at e
            cases e
            obtain ⟨p1, p2⟩ := cls_ok t e1
            exact ⟨.cons (.own _) p1, fun C' h' => by rcases List.mem_cons.mp h' with z | z; rw [z]; exact hC; exact p2 _ z⟩
        · cases e
      | _ => cases e
theorem kitAny_cls {K : KF} {rs cs : List Str} {c : Str} (S : ExcS K rs cs) (hc : c ∈ rs) : ∀ Cs : List Str, (∀ C ∈ Cs, C ∈ cs) → PySem.W.kitAny K (.ref (He.ga K c)) (Cs.map fun C => Value.ref (He.ga K C)) = some (Cs.any fun C => c == C)
  | [], _ => rfl
  | C :: Cs, h => by
    rw [List.map_cons, List.any_cons]
    refine kitAny_cons ((S c hc).2 C (h C List.mem_cons_self)) (fun z => ?_) fun z => ?_
    · rw [z, Bool.false_or]; exact kitAny_cls S hc Cs fun C' h' => h C' (List.mem_cons_of_mem _ h')
    · rw [z, Bool.true_or]
theorem cs_isx {rs cs : List Str} (S : ExcS X.K rs cs) : CallS X (rOrC (rIsx X.K) (rIsxT X.K)) (gIsx rs cs) := by
  intro G F δ σ H vs xs P Q eK I hv g k
  unfold gIsx at g
  rw [← eK] at S
  split at g
  · rename_i c fs ds C
    obtain ⟨v, u, rfl, h1, h2⟩ := vals2D hv
    obtain ⟨m1, m2, g⟩ := g
    cases h2
    cases (show Rep G.K G.pa F H v (.exc c fs ds) from h1) with
    | exc f a g' x n b =>
      refine .inl ⟨_, _, _, _, _, _, rfl, a, x, ?_, ?_, kont_flat I k g (.bl _)⟩
      · rw [← eK]; exact (S c m1).1
      · rw [← eK]; exact (S c m1).2 C m2
  · rename_i c fs ds cl
    obtain ⟨v, u, rfl, h1, h2⟩ := vals2D hv
    obtain ⟨m1, Cs, e1, g⟩ := g
    cases (show Rep G.K G.pa F H u (.tup cl) from h2) with
    | tup ta tb =>
      obtain ⟨p1, p2⟩ := cls_ok tb e1
      cases (show Rep G.K G.pa F H v (.exc c fs ds) from h1) with
      | exc f a g' x n b =>
        refine .inr ⟨_, _, _, _, _, _, _, _, rfl, a, x, ?_, ?_, p1, ?_, kont_flat I k g (.bl _)⟩
        · rw [← eK]; exact (S c m1).1
        · rw [← eK]; exact ta.sq
        · rw [← eK]; exact kitAny_cls S m1 Cs p2
  · exact g.elim
theorem c_isx : CallR X (.builtin "isinstance") (rOrC (rIsx X.K) (rIsxT X.K)) := callOr call_isx call_isxT
end
def excSB (K : KF) (rs cs : List Str) : Bool := rs.all fun c => excRB K (He.ga K c) && cs.all fun C => PySem.W.kitOne K (.ref (He.ga K c)) (.ref (He.ga K C)) == some (c == C)
theorem excSB_ok {K : KF} {rs cs : List Str} (h : excSB K rs cs = true) : ExcS K rs cs := fun c hc => by
  obtain ⟨h1, h2⟩ := Bool.and_eq_true_iff.mp (List.all_eq_true.mp h c hc)
  exact ⟨excRB_ok h1, fun C hC => by simpa using List.all_eq_true.mp h2 C hC⟩
/-! ### e.f -/
/-- the classes of cs have no attribute f of their own -/
def NoAt (K : KF) (cs : List Str) (f : Str) : Prop := ∀ c ∈ cs, ExcR K (He.ga K c) ∧ PySem.W.findIn K (.ref (He.ga K c)) f = some none
def noAtB (K : KF) (cs fs : List Str) : Bool := fs.all fun f => cs.all fun c => PySem.W.findIn K (.ref (He.ga K c)) f == some none
theorem noAtB_ok {K : KF} {cs cs2 fs : List Str} (S : ExcS K cs cs2) (h : noAtB K cs fs = true) {f : Str} (hf : f ∈ fs) : NoAt K cs f := fun c hc => ⟨(S c hc).1, by simpa using List.all_eq_true.mp (List.all_eq_true.mp h f hf) c hc⟩
def gXf (cs : List Str) (f : Str) (fe : FX D) : FX D := fun Ed δ Q => fe Ed δ fun d δ' => match d with
  | .exc c fs xs => c ∈ cs ∧ ∃ x, (fs.zip xs).lookup f = some x ∧ Q x δ'
  | _ => False
theorem zip_look {K : KF} {pa : Option Addr} {F : FS} {H : Hp} {f : Str} {x : D} : ∀ {gs : List (Str × V)} {xs : List D}, RepAll K pa F H (gs.map (·.2)) xs → ((gs.map (·.1)).zip xs).lookup f = some x → ∃ v, gs.lookup f = some v ∧ Rep K pa F H v x
  | [], _, h, e => by cases h; simp at e
  | (g, v) :: gs, _, h, e => by
    cases h with
    | cons r t =>
      simp only [List.map_cons, List.zip_cons_cons, List.lookup] at e ⊢
      split at e
      · rename_i q
        cases e
        exact ⟨v, rfl, r⟩
      · rename_i q
        exact zip_look t e
section
variable {X : Cx} {E : XK} {e : Expr} {pos : Pos} {f : Str}
theorem dg_xf {cs : List Str} {fe : FX D} (N : NoAt X.K cs f) (he : DG X E e fe) (hb : attributeBase e f X.env (eval e X.env) = eval e X.env := by rfl) : DG X E (.Attribute e f pos) (gXf cs f fe) := by
  refine ⟨fun pins s σ H Q I h => ?_⟩
  obtain ⟨G, F, δ, Qd, Ed, eK, I0, hf, hx, k⟩ := h
  refine attr_of hb (thn (he.run pins s σ H (fun v H' => ∃ F' δ' d, Hold G F' δ' σ H' ∧ Stp G σ δ F H δ' F' H' ∧ Rep G.K G.pa F' H' v d ∧ (match d with
    | .exc c fs xs => c ∈ cs ∧ ∃ x, (fs.zip xs).lookup f = some x ∧ Qd x δ'
    | _ => False)) I ⟨G, F, δ, _, Ed, eK, I0, hf, hx, fun d δ' F' H' v q I' s' r' => ⟨F', δ', d, I', s', r', q⟩⟩) fun u s1 got => ?_)
  obtain ⟨v, H1, I1, rv, F1, δ1, d, hold, stp, rep, q⟩ := got
  cases d with
  | exc c fs xs =>
    obtain ⟨m, x, lk, q⟩ := q
    cases rep with
    | exc f1 a1 f2 a2 n b =>
      subst n
      cases (show u = Value.ref _ from rv)
      obtain ⟨ox, od, mA, it, look, rel⟩ := xo_inst I1.hok a1 a2
      obtain ⟨y, l2, ry⟩ := zip_look b lk
      obtain ⟨z, hz, rz⟩ := RelO.some_of (v := y) (o := mA f) (by rw [← l2]; exact rel f)
      have nn := N c m
      rw [← eK] at nn
      have kin : G.K.In s1.heap := by rw [eK]; exact I1.kIn
      exact PySem.HandSPX.exc_get kin it nn.1.x.ga nn.1.x.gg nn.1.x.exC (PySem.W.findObj_own nn.1.x.hdC nn.2 rfl (by rw [look, hz])) (handed_of rz) ⟨y, H1, I1.tok _, rz, k x δ1 F1 H1 y q hold stp ry⟩
  | _ => exact q.elim
end
end DS
end
section
set_option maxRecDepth 100000
set_option maxHeartbeats 1000000
/-! DX7: try .. except X as n: m = n; the exception is known behind the suite. -/
namespace DS
open PySem PySem.Spec PyProof.Rows L2
/-- an exception that was caught: of the class cls, its dict d -/
def XZ (a : Addr) (cls : Value) (d : Option Addr) : HO := .ext fun h => ∃ (oe : Obj) (vs : Array Value), h.get? a = some oe ∧ oe.cls = cls ∧ oe.dict = d ∧ oe.data = .fields vs
theorem xz_xo {a C dx : Addr} : XZ a (.ref C) (some dx) = XO C a dx := rfl
section
variable {X : Cx} {pins : List (Addr × Obj)} {σ : L2.St} {H : Hp} {s : Shared}
/-- an object that is there becomes a known one -/
theorem inv_track {a : Addr} {o : HO} (I : Inv X pins σ H s) (na : H a = none) (n0 : X.s_0.heap.get? a = none) (nL : a ≠ X.env.locals) (nC : ∀ x c, X.env.cells.lookup x = some c → c ≠ a) (nP : ∀ p ∈ X.pn ++ pins, p.1 ≠ a)
    (ok : ObjOk X.prog X.w (upd H a o) s.heap a o) : Inv X pins σ (upd H a o) s := by
  have at_ : ∀ b u, H b = some u → upd H a o b = some u := fun b u e => by rw [upd_ne (fun z => by rw [z, na] at e; cases e)]; exact e
  refine ⟨I.ok, I.os, I.bare, ⟨I.base.keep, I.base.slot, fun b u e n hx => ?_, I.base.there, fun b xs e => at_ _ _ (I.base.tups b xs e), fun b u v e => at_ _ _ (I.base.frzs b u v e), fun b ps e => ?_⟩, I.loc, I.cell, ?_, fun x c e => ?_, fun p hp => ?_, fun b u e => ?_, I.len⟩
  · rw [upd_ne (fun z => by rw [z, n0] at e; cases e)]
    exact I.base.free b u e n hx
  · obtain ⟨more, q⟩ := I.base.tbls b ps e
    exact ⟨more, at_ _ _ q⟩
  · rw [upd_ne (Ne.symm nL)]; exact I.free
  · rw [upd_ne (nC x c e)]; exact I.freeC x c e
  · obtain ⟨p1, p2, p3⟩ := I.pin p hp
    exact ⟨p1, by rw [upd_ne (nP p hp)]; exact p2, p3⟩
  · by_cases hb : b = a
    · rw [hb] at e ⊢
      rw [upd_same] at e
      cases e
      exact ok
    · rw [upd_ne hb] at e
      exact (I.hok b u e).stay (fun _ _ _ q => q) (fun c q => at_ _ _ q) fun c xs q => at_ _ _ q
/-- the suite's context is left, the exception is still pinned -/
theorem unsuiteK {a : Addr} {oe : Obj} {pn' : List (Addr × Obj)} (I : Inv (X.suite a ((a, oe) :: (X.pn ++ pins))) pn' σ H s) (ok : X.Ok) : Inv X ((a, oe) :: pins) σ H s :=
  ⟨ok, I.os, I.bare, I.base, I.loc, I.cell, I.free, I.freeC, fun p hp => I.pin p (by
    refine List.mem_append_left _ ?_
    rcases List.mem_append.mp hp with z | z
    · exact List.mem_cons_of_mem _ (List.mem_append_left _ z)
    · rcases List.mem_cons.mp z with z | z
      · rw [z]; exact List.mem_cons_self
      · exact List.mem_cons_of_mem _ (List.mem_append_right _ z)), I.hok, I.len⟩
theorem unpin {a : Addr} {oe : Obj} (I : Inv X ((a, oe) :: pins) σ H s) : Inv X pins σ H s :=
  ⟨I.ok, I.os, I.bare, I.base, I.loc, I.cell, I.free, I.freeC, fun p hp => I.pin p (by
    rcases List.mem_append.mp hp with z | z
    · exact List.mem_append_left _ z
    · exact List.mem_append_right _ (List.mem_cons_of_mem _ z)), I.hok, I.len⟩
end
def wKeep (K : KF) (c : Value) (i j : Nat) (D : Ends) : L2.WX := fun cls d σ H => PySem.W.exmOne K cls c = some true ∧ ∀ a, H a = none → D.nx (((σ.set i (some (.ref a))).set j (some (.ref a))).set i none) (upd H a (XZ a cls d))
section
variable {X : Cx} {x n m : Str} {c : Value} {i j : Nat} {body : List Stmt} {np mp vp sp pos pos' : Pos} {tb : L2.WX → TS}
theorem ps_try_keep (hs : X.stack = X.env :: X.outer) (hf : X.env.frame = some X.env.locals) (hex : X.ex = []) (hN : X.N.Nodup) (hi : X.N[i]? = some n) (hln : X.env.kindOf n = some .local) (hj : X.N[j]? = some m) (hlm : X.env.kindOf m = some .local) (hc : Names X x c)
    (hb : ∀ (W : L2.WX) (pn : List (Addr × Obj)) (xe : Value → Shared → Prop), L2N.Takes (X.tr pn xe) W → PassesOwn (model X.prog X.w) X.A X.env xe → PSs (X.tr pn xe) body (tb W))
    (hd : (n == ("__debug__" : Str)) = false := by decide) (hcd : (n == ("__classdict__" : Str)) = false := by decide) :
    PS X (.Try body [.ExceptHandler (some (.Name x np)) (some n) [.Assign [.Name m mp] (.Name n vp) sp] pos'] [] [] pos) (fun D σ H => tb (wKeep X.K c i j D) D σ H) := by
  refine ⟨fun pins s σ H D I h => ?_⟩
  have ok := I.ok
  have frm : X.A.frames = some (X.env :: X.outer) := by rw [ok.frames, hs]
  have locn : Loc X.env.scope n := .inl hln
  have visn : Vis X.env.scope n := .inl hln
  apply wpAny_Try_except
  refine wpAny_mono ((hb (wKeep X.K c i j D) (X.pn ++ pins) (fun e s₁ => wpAny (model X.prog X.w) X.A (noteFrame e X.env) (fun _ s₂ => wpAny (model X.prog X.w) X.A (setFlight e none) (fun _ s₃ =>
    wpAny (model X.prog X.w) X.A (handleBy e X.env [.ExceptHandler (some (.Name x np)) (some n) [.Assign [.Name m mp] (.Name n vp) sp] pos']) (SP X pins D) X.xe s₃) X.xe s₂) X.xe s₁) (fun u s' got => ?_) PassesOwn.looking).run [] s σ H D (I.toTry _) h) (fun f s1 out => ?_) (fun e s1 he => he)
  · obtain ⟨a, B, sI, pins', σ', H', cls, d, rfl, Jt, nb, up, sky, na, os, ag, is, go⟩ := got
    have J : Inv X pins σ' H' sI := Jt.ofTry ok
    have sky2 : L2.Sky B (X.env :: X.outer) a (L2N.Zn cls d) X.env.locals s'.heap := by rw [← hs]; exact sky
    change wpAny (model X.prog X.w) X.A (noteFrame (.ref a) X.env) _ _ _
    refine L2N.Sky.land L2N.Zn.steady frm hf sky2 fun h3 fl3 up3 => ?_
    have J3 : Inv X pins σ' H' { s' with heap := h3 } := J.landed nb fl3.1 (up.trans up3) os ag
    obtain ⟨oe3, vs3, he3, hz3, hd3⟩ := fl3.there
    have offFr : a ∉ frs (X.env :: X.outer) := fun hm => by
      obtain ⟨_, o', e', hnf⟩ := fl3.2.2.1.mem hm
      rw [he3] at e'
      cases e'
      exact hnf _ hd3
    have offL : a ≠ X.env.locals := fun z => offFr (List.mem_filterMap.mpr ⟨X.env, List.mem_cons_self, by rw [hf, z]⟩)
    have offF : a ∉ X.fs := fun hm => by
      obtain ⟨e, he, q⟩ := List.mem_filterMap.mp hm
      exact offFr (List.mem_filterMap.mpr ⟨e, List.mem_cons_of_mem _ he, q⟩)
    have gone : B.get? a = none := fl3.2.1
    have offS : a ∉ frs X.stack := by rw [hs]; exact offFr
    have offI : sI.heap.get? a = none := by
      cases q : sI.heap.get? a with
      | none => rfl
      | some o =>
        have z := nb a o q offS
        rw [gone] at z
        cases z
    have off0 : X.s_0.heap.get? a = none := by
      cases q : X.s_0.heap.get? a with
      | none => rfl
      | some o =>
        obtain ⟨o', e'⟩ := J.base.there a o q (by rw [hex]; simp)
        rw [offI] at e'
        cases e'
    have offC : ∀ x c, X.env.cells.lookup x = some c → c ≠ a := fun x c e z => by
      obtain ⟨v, o, ho, _⟩ := J.cell x c e
      rw [z, offI] at ho
      cases ho
    have offP : ∀ p ∈ X.pn ++ pins, p.1 ≠ a := fun p hp z => by
      have ho := (J.pin p hp).1
      rw [z, offI] at ho
      cases ho
    have S3 := J3.suite he3 hd3 na offL offF
    refine wpAny_handleBy_cons (codeAny_handlers_test ?_) (by intro q; cases q)
    have seen : PySem.W.Looks (model X.prog X.w) h3 (typeOf (.ref a)) cls := fun A Q E s k q => wpAny_typeOf_ref (k _ _ he3) (by rw [hz3.1]; exact q)
    have fits := PySem.W.exm_one (M := model X.prog X.w) (J3.kIn) seen is
    have named : ∀ {Q : Value → Shared → Prop} {E : Value → Shared → Prop}, Q c { s' with heap := h3 } → wpAny (model X.prog X.w) (X.A.mark (some (.ref a))) (eval (.Name x np) X.env) Q E { s' with heap := h3 } := fun {Q E} q => by
      obtain ⟨hg, hdbg, hm | ⟨hm, hv, hnn⟩⟩ := hc
      · exact ld_glob (X := X.suite a ((a, oe3) :: (X.pn ++ pins))) S3 hg hm q hdbg
      · exact ld_blt (X := X.suite a ((a, oe3) :: (X.pn ++ pins))) S3 hg hm hv q hnn hdbg
    refine named (fits.here ?_)
    apply codeAny_handlers_suite_as
    refine HandSPX.lands_againZ fl3 fun h4 fl4 up4 => ?_
    have J4 : Inv X pins σ' H' { s' with heap := h4 } := J.landed nb fl4.1 ((up.trans up3).trans up4) os ag
    obtain ⟨oe4, vs4, he4, hz4, hd4⟩ := fl4.there
    have S4 := J4.suite he4 hd4 na offL offF
    refine store_ok (X := X.suite a ((a, oe4) :: (X.pn ++ pins))) (v := .ref a) S4 hN hi locn rfl (fun s5 S5 => ?_) (.inr hln)
    have hlen : i < σ'.length := by
      have := J4.len
      rw [this]
      exact (List.getElem?_eq_some_iff.mp hi).1
    have asg : PSs (X.suite a ((a, oe4) :: (X.pn ++ pins))) [.Assign [.Name m mp] (.Name n vp) sp] _ := pss_one (ps_set (i := j) hN hj (.inl hlm) (pe_var (i := i) hi visn hd hcd) rfl (.inr hlm))
    let D2 : Ends := ⟨fun σ7 H7 => σ7 = (σ'.set i (some (.ref a))).set j (some (.ref a)) ∧ H7 = H', fun _ _ => False, fun _ _ => False, fun _ _ => False⟩
    refine wpAny_mono (asg.run [] s5 _ H' D2 S5 ⟨.ref a, List.getElem?_set_self hlen, rfl, rfl⟩) (fun f s6 out => ?_) (fun _ _ z => False.elim z)
    cases f with
    | next =>
      obtain ⟨σ6, H6, S6, e6, e7⟩ := out
      subst e6 e7
      refine gone_ok (unsuiteK S6 ok) hN hi hln fun s7 J7 => ?_
      obtain ⟨g1, g2, _⟩ := J7.pin (a, oe4) (List.mem_append_right _ List.mem_cons_self)
      refine ⟨_, _, inv_track (unpin J7) na off0 offL offC offP ?_, go a na⟩
      exact ⟨⟨oe4, vs4, g1, hz4.1, hz4.2.1, hd4⟩, ⟨oe4, g1⟩, fun h1 h2 ⟨o, v, q1, q2, q3, q4⟩ st => ⟨o, v, st _ q1, q2, q3, q4⟩⟩
    | brk =>
      obtain ⟨_, _, _, z⟩ := out
      exact z.elim
    | cont =>
      obtain ⟨_, _, _, z⟩ := out
      exact z.elim
    | ret u =>
      obtain ⟨_, _, _, _, _, z⟩ := out
      exact z.elim
  · cases f with
    | next =>
      obtain ⟨σ', H', J', q⟩ := out
      exact wpAny_execs_nil ⟨σ', H', J'.ofTry ok, q⟩
    | brk =>
      obtain ⟨σ', H', J', q⟩ := out
      exact ⟨σ', H', J'.ofTry ok, q⟩
    | cont =>
      obtain ⟨σ', H', J', q⟩ := out
      exact ⟨σ', H', J'.ofTry ok, q⟩
    | ret u =>
      obtain ⟨v, σ', H', J', r, q⟩ := out
      exact ⟨v, σ', H', J'.ofTry ok, r, q⟩
end
end DS
end
section
set_option maxRecDepth 100000
set_option maxHeartbeats 1000000
/-! DX8: a lambda: how it is made, its own context, its call. -/
namespace DS
open PySem PySem.Spec PyProof.Rows L2
section
variable {X : Cx} {pins : List (Addr × Obj)} {σ : L2.St} {H : Hp} {s : Shared} {c P : Addr} {params : Arguments} {body : Expr} {scope : Scope} {pos : Pos} {ps : Array Value} {E : Value → Shared → Prop} {Q : Value → Shared → Prop} {d : Option Int}
abbrev lamQ (X : Cx) : Str := X.env.qual ++ "<lambda>"
theorem lam_mk (I : Inv X pins σ H s) (TB : LamX.TabB X.base X.mg c P) (hcode : X.env.code = .ref c) (hP : H P = some (.tbl ps)) (ht : TriplesOk ps.toList) (hd : DefOk params X.env d)
    (hin : ∀ (pos : Pos) (cv : Value), codeAmong pos ps.toList = some cv → ∃ c0, cv = .ref c0 ∧ H c0 = some (LamX.CodeO c0 (lamQ X))) (hfree : ∀ y ∈ scope.names, y.2 = .free → ∃ c, X.env.cells.lookup y.1 = some c)
    (h : ∀ (f c' : Addr) (dV doc pm ctv : Value) (H1 : Hp) (s' : Shared), Inv X pins σ H1 s' → TabTo H P (lamQ X) ps c' H1 → DflAt s'.heap H1 (frs X.stack) dV d →
      s'.heap.get? f = some (lamO (lamQ X) params body scope (cloFrom X.env.cells scope.names []) dV doc pm c' ctv) → H1 f = none → f ∉ frs X.stack → H1 c' = some (LamX.CodeO c' (lamQ X)) → Q (.ref f) s') :
    wpAny (model X.prog X.w) X.A (eval (.Lambda params body scope pos) X.env) Q E s := by
  cases d with
  | none =>
    refine PySem.W.kla_eval hd ?_
    rw [makeFunction_eq]
    simp only [List.zip_nil_right, List.filterMap_nil, List.isEmpty_nil, if_true, pure_bind]
    exact lam_tail I TB hcode hP ht hin hfree fun f c' doc pm ctv H1 s' I1 t1 _ _ e1 n1 n2 n3 => h f c' .none doc pm ctv H1 s' I1 t1 rfl e1 n1 n2 n3
  | some i =>
    obtain ⟨kd, j, p, df⟩ := hd
    refine PySem.W.kdv_lam (by rw [df]; rfl) kd ?_
    rw [df]
    refine PySem.W.kdv_all1 (wpAny_Constant_int (PySem.W.kdv_all0 ?_))
    rw [makeFunction_eq]
    simp only [List.zip_nil_right, List.filterMap_nil, List.isEmpty_nil, if_true, pure_bind, List.isEmpty_cons, Bool.false_eq_true, if_false]
    refine wpAny_bind (wpAny_newTextTuple ?_)
    have kk : ∀ b o, s.heap.get? b = some o → (s.heap.push (PySem.W.kdv_tup [.int i s.toks])).get? b = some o := fun b o e => Heap.get?_push_of_some _ e
    have J : Inv X pins σ H { s with heap := s.heap.push (PySem.W.kdv_tup [.int i s.toks]), toks := s.toks + 1 } := I.kept kk
    have n0 : H s.heap.objs.size = none := I.hok.fresh (Nat.le_refl _)
    have g0 : (s.heap.push (PySem.W.kdv_tup [.int i s.toks])).get? s.heap.objs.size = some (PySem.W.kdv_tup [.int i s.toks]) := Heap.get?_push_size _ rfl
    have nP : s.heap.objs.size ≠ P := fun z => by rw [← z, n0] at hP; cases hP
    refine lam_tail J TB hcode hP ht hin hfree fun f c' doc pm ctv H1 s' I1 t1 k1 z1 e1 n1 n2 n3 => h f c' _ doc pm ctv H1 s' I1 t1 ⟨_, _, rfl, k1 _ _ nP g0, z1 _ (Heap.lt_size g0) n0, fresh_fr I (Nat.le_refl _)⟩ e1 n1 n2 n3
end
/-! ### its own context -/
structure LamOk (sc : Scope) (N : List Str) (scope : Scope) (ps : List Str) : Prop where
  kind : scope.kind = .function
  co : scope.isCoroutine = false
  gen : scope.isGenerator = false
  noc : ∀ y ∈ scope.names, y.2 ≠ .cell
  own : ∀ y ∈ scope.names, y.2 = .local → y.1 ∉ N
  par : ∀ p ∈ ps, scope.names.lookup p = some .local
  free : ∀ y ∈ scope.names, y.2 = .free → sc.names.lookup y.1 = some .cell ∨ sc.names.lookup y.1 = some .free
def lamOkB (sc : Scope) (N : List Str) (scope : Scope) (ps : List Str) : Bool :=
  decide (scope.kind = .function) && !scope.isCoroutine && !scope.isGenerator && (scope.names.all fun y => !decide (y.2 = .cell) && (!decide (y.2 = .local) || !N.contains y.1) && (!decide (y.2 = .free) || decide (sc.names.lookup y.1 = some .cell) || decide (sc.names.lookup y.1 = some .free))) &&
    ps.all fun p => decide (scope.names.lookup p = some .local)
theorem lamOk_by {sc : Scope} {N : List Str} {scope : Scope} {ps : List Str} (h : lamOkB sc N scope ps = true) : LamOk sc N scope ps := by
  unfold lamOkB at h
  simp only [Bool.and_eq_true, Bool.or_eq_true, Bool.not_eq_true', decide_eq_true_eq, decide_eq_false_iff_not, List.all_eq_true] at h
  obtain ⟨⟨⟨⟨h1, h2⟩, h3⟩, h4⟩, h5⟩ := h
  refine ⟨h1, h2, h3, fun y hy => (h4 y hy).1.1, fun y hy e => ?_, h5, fun y hy e => ?_⟩
  · rcases (h4 y hy).1.2 with z | z
    · exact absurd e z
    · intro m
      rw [List.contains_iff_mem.mpr m] at z
      cases z
  · rcases (h4 y hy).2 with (z | z) | z
    · exact absurd e z
    · exact .inl z
    · exact .inr z
theorem LamOk.has {X : Cx} {scope : Scope} {ps : List Str} (L : LamOk X.env.scope X.N scope ps) (ok : X.Ok) : ∀ y ∈ scope.names, y.2 = .free → ∃ c, X.env.cells.lookup y.1 = some c := fun y hy e =>
  (L.free y hy e).elim (fun k => ok.has _ (.inl k)) fun k => ok.has _ (.inr k)
def LamB (params : Arguments) (body : Expr) (scope : Scope) (ps : List Str) : Option Int → Prop
  | none => ps = [] ∧ ∀ (q : Str) (cl : List (Str × Addr)) (doc pm cv ctv : Value), bindArgs (PySem.W.kdv_fn "<lambda>" q params (.expr body) scope cl .none doc pm cv ctv) ⟨[], []⟩ = pure []
  | some _ => ∃ p, ps = [p] ∧ ∀ (T : Addr) (q : Str) (cl : List (Str × Addr)) (doc pm cv ctv : Value), ∃ k, bindArgs (PySem.W.kdv_fn "<lambda>" q params (.expr body) scope cl (.ref T) doc pm cv ctv) ⟨[], []⟩ = seqItems? (.ref T) >>= k ∧ ∀ u : Value, k (some #[u]) = pure [(p, u)]
abbrev lEnv (X : Cx) (scope : Scope) (L f c' : Addr) : Env := PySem.W.envX (lamQ X) scope L f (.ref c') (cloFrom X.env.cells scope.names [])
def lamC (X : Cx) (A : Around) (outer : List Env) (s : Shared) (H : Hp) (E : XK) (scope : Scope) (f c' : Addr) : Cx :=
  let env1 := lEnv X scope s.heap.objs.size f c'
  { prog := X.prog, w := X.w, K := X.K, mg := X.mg, base := X.base, A := A.deeper env1, N := X.N, s_0 := s, H_0 := H, env := env1, outer := outer, stack := env1 :: outer, ex := [], fn := fun _ => false, calm := true, pn := [],
    xe := fun e s' => wpAny (model X.prog X.w) (A.deeper env1) (leaving env1 e) (fun _ s'' => L2N.CX X.prog X.w outer H s E e s'') (fun e' s'' => L2N.CX X.prog X.w outer H s E e' s'') s' }
section
variable {X : Cx} {pins : List (Addr × Obj)} {σ : L2.St} {H HZ : Hp} {s s1 : Shared}
theorem lam_enter {A : Around} {outer : List Env} {E : XK} {scope : Scope} {ps : List Str} {f c' : Addr} {h₁ : Heap} {tk : Nat} {m : Str → Option Value} (I : Inv X pins σ H s) (L : LamOk X.env.scope X.N scope ps) (e0 : Env0 X.prog X.w X.K X.mg X.base A outer s1 HZ) (calm : A.handled = none)
    (un : Un (frs X.stack) [] H HZ s.heap s1.heap) (hns : h₁.Ns s1.heap.objs.size m) (kp : ∀ b o, s1.heap.get? b = some o → h₁.get? b = some o) :
    Inv (lamC X A outer s1 HZ E scope f c') [] σ HZ { s1 with heap := h₁, toks := tk } := by
  have back : ∀ {y c}, (cloFrom X.env.cells scope.names []).lookup y = some c → X.env.cells.lookup y = some c := fun {y c} e => by
    rcases cloFrom_mem (PySem.mem_of_lookup e) with z | ⟨h1, h2⟩
    · cases z
    · obtain ⟨c1, hc⟩ := L.has I.ok _ h1 rfl
      have hc : X.env.cells.lookup y = some c1 := hc
      have same : c = c1 := by rw [h2, hc] <;> rfl
      rw [same]
      exact hc
  have there : ∀ {y}, scope.names.lookup y = some .free → ∃ c, (cloFrom X.env.cells scope.names []).lookup y = some c := fun {y} hl =>
    mem_lookup (cloFrom_has (cells := X.env.cells) (acc := []) (PySem.mem_of_lookup hl))
  have cellS : ∀ {c : Addr} {v : Option Value}, H c = none → s.heap.IsCell c v → h₁.IsCell c v := fun {c v} n ⟨o, ho, hd⟩ => by
    obtain ⟨sl, q⟩ := un.any ho n (by simp)
    exact ⟨_, kp _ _ q, hd⟩
  have none_ : ∀ b : Addr, b ∉ (lamC X A outer s1 HZ E scope f c').ex := fun b z => by
    have z : b ∈ ([] : List Addr) := z
    simp at z
  have okC : (lamC X A outer s1 HZ E scope f c').Ok := {
    mod := e0.mod
    kind := L.kind
    glob := rfl
    blt := rfl
    above := Nat.le_refl _
    inj := fun y z c e1 e2 => I.ok.inj y z c (back e1) (back e2)
    has := fun y hy => by
      have hy : scope.names.lookup y = some .cell ∨ scope.names.lookup y = some .free := hy
      rcases hy with hy | hy
      · exact absurd rfl (L.noc _ (PySem.mem_of_lookup hy))
      · exact there hy
    cab := fun y c z _ => by
      have z : false = true := z
      cases z
    hd := fun _ => calm
    frames := Around.frames_deeper e0.frames
    stk := .inr ⟨rfl, rfl⟩
    exf := fun b z => absurd z (none_ b)
    bs := e0.bs
    bsz := e0.bsz
    noex := fun b _ _ => none_ b
    exfs := fun b z => absurd z (none_ b)
    funs := e0.funs
    frf := e0.frf }
  exact {
    ok := okC
    os := rfl
    bare := e0.bare
    base := Un.kept kp
    loc := ⟨m, hns, fun i y v e1 e2 e3 => by
      have e1 : X.N[i]? = some y := e1
      have e3 : Vis scope y := e3
      rcases e3 with k | k | k
      · exact absurd (List.mem_of_getElem? e1) (L.own _ (PySem.mem_of_lookup k) rfl)
      · exact absurd rfl (L.noc _ (PySem.mem_of_lookup k))
      · obtain ⟨m', _, hl⟩ := I.loc
        obtain ⟨u, r, q⟩ := hl i y v e1 e2 ((L.free _ (PySem.mem_of_lookup k) rfl).elim (fun k => .inr (.inl k)) fun k => .inr (.inr k))
        obtain ⟨c2, h2⟩ := there k
        have c1 := back h2
        refine ⟨u, r, .inr ⟨.inr k, c2, h2, ?_⟩⟩
        rcases q with ⟨k1, _⟩ | ⟨_, c3, e', z⟩
        · have k1 : X.env.scope.names.lookup y = some .local := k1
          rcases L.free _ (PySem.mem_of_lookup k) rfl with k2 | k2 <;> (have k2 : X.env.scope.names.lookup y = _ := k2; rw [k1] at k2; cases k2)
        · rw [c1] at e'
          cases e'
          exact cellS (I.freeC y _ c1) z⟩
    cell := fun y c e => by
      obtain ⟨v, z⟩ := I.cell y c (back e)
      exact ⟨v, cellS (I.freeC y c (back e)) z⟩
    free := e0.hok.fresh (Nat.le_refl _)
    freeC := fun y c e => by
      obtain ⟨v, o, ho, hd⟩ := I.cell y c (back e)
      exact un.free c o ho (I.freeC y c (back e)) (by simp)
    pin := fun q hq => by
      have hq : q ∈ ([] : List (Addr × Obj)) ++ [] := hq
      simp at hq
    hok := e0.hok.kept kp
    len := I.len }
end
end DS
end
section
set_option maxRecDepth 100000
set_option maxHeartbeats 1000000
/-! DX9: a def calls the lambda that it was given. -/
namespace DS
open PySem PySem.Spec PyProof.Rows L2
/-- the context of the def at g that was called from X at s -/
abbrev inC (X : Cx) (Ng : List Str) (qg : Str) (sg : Scope) (g : Addr) (cdg : Value) (s : Shared) (H : Hp) (Eg : XK) : Cx := cxOf (L2N.CX X.prog X.w) X.prog X.w X.K X.mg X.base Ng qg sg g cdg X.A X.stack s H Eg
theorem lam_binds {s : Shared} {H : Hp} {fs : List Addr} {params : Arguments} {body : Expr} {scope : Scope} {ps : List Str} {d : Option Int} {dV doc pm cv ctv : Value} {q : Str} {cl : List (Str × Addr)} (df : DflAt s.heap H fs dV d) (B : LamB params body scope ps d) :
    ∃ bs : List (Str × Value), BindsTo s (PySem.W.kdv_fn "<lambda>" q params (.expr body) scope cl dV doc pm cv ctv) ⟨[], []⟩ bs ∧ ∀ y ∈ bs, y.1 ∈ ps := by
  cases d with
  | none =>
    obtain ⟨e, b⟩ := B
    have dv : dV = .none := df
    subst dv
    exact ⟨[], BindsTo.of_eq (b q cl doc pm cv ctv), by simp⟩
  | some i =>
    obtain ⟨p, e, b⟩ := B
    obtain ⟨T, t, dv, at_, _⟩ := df
    subst dv e
    obtain ⟨k, b1, b2⟩ := b T q cl doc pm cv ctv
    exact ⟨[(p, .int i t)], BindsTo.of_defaults rfl at_ rfl b1 (b2 _), by simp⟩
section
variable {X : Cx} {pins : List (Addr × Obj)} {σ : L2.St} {H : Hp} {s : Shared}
theorem pe_ask {Eg : XK} {Ng : List Str} {qg : Str} {sg : Scope} {g f c' : Addr} {cdg dV doc pm ctv : Value} {params : Arguments} {body : Expr} {scope : Scope} {ps : List Str} {d : Option Int} {k i : Nat} {a : Str} {pn : List (Addr × Obj)} {xe : Value → Shared → Prop} {W : L2.WX} {tb : XK → TE} {p1 p2 : Pos}
    (I : Inv X pins σ H s) (L : LamOk X.env.scope X.N scope ps) (at_ : s.heap.get? f = some (lamO (lamQ X) params body scope (cloFrom X.env.cells scope.names []) dV doc pm c' ctv)) (n1 : H f = none) (n2 : f ∉ frs X.stack) (df : DflAt s.heap H (frs X.stack) dV d) (B : LamB params body scope ps d)
    (tk : L2N.Takes ((inC X Ng qg sg g cdg s H Eg).tr pn xe) W) (hg : Bare X.A) (hr : Room (k + 1) (X.A.deeper (envOfC qg sg s.heap.objs.size g cdg)))
    (hbody : ∀ (E : XK) (A : Around) (outer : List Env) (s1 : Shared) (H1 : Hp), Bare A → Room k (A.deeper (lEnv X scope s1.heap.objs.size f c')) → PE (lamC X A outer s1 H1 E scope f c') body (tb E))
    (hN : Ng[i]? = some a) (hv : Vis sg a) (hd : (a == ("__debug__" : Str)) = false := by decide) (hcd : (a == ("__classdict__" : Str)) = false := by decide) :
    PE ((inC X Ng qg sg g cdg s H Eg).tr pn xe) (.Call (.Name a p1) [] [] p2)
      (fun σZ HZ Q => σZ[i]? = some (some (.ref f)) ∧ HZ c' = some (LamX.CodeO c' (lamQ X)) ∧ tb (fun cls dx H' => W cls dx σZ H') σ HZ Q) := by
  refine ⟨fun pinsZ sZ σZ HZ Q IZ h => ?_⟩
  obtain ⟨isF, isC, want⟩ := h
  refine wpAny_Call_Name_kw (thn ((pe_var (pos := p1) (i := i) hN hv hd hcd).run pinsZ sZ σZ HZ (fun v H1 => v = .ref f ∧ H1 = HZ) IZ ⟨.ref f, isF, rfl, rfl⟩) fun u s1 got => ?_)
  obtain ⟨v, H1, I1, r1, ev, eH⟩ := got
  subst ev
  rw [eH] at I1
  obtain rfl : u = Value.ref f := r1
  have noX : ∀ b : Addr, b ∉ ([] : List Addr) := fun b z => by simp at z
  have here : s1.heap.get? f = some (lamO (lamQ X) params body scope (cloFrom X.env.cells scope.names []) dV doc pm c' ctv) := I1.base.keep f _ at_ n1 n2 (noX f)
  have df1 : DflAt s1.heap H (frs X.stack) dV d := by
    cases d with
    | none => exact df
    | some z =>
      obtain ⟨T, t, e1, e2, e3, e4⟩ := df
      exact ⟨T, t, e1, I1.base.keep T _ e2 e3 e4 (noX T), e3, e4⟩
  obtain ⟨bs, bi, par⟩ := lam_binds (q := lamQ X) (cl := cloFrom X.env.cells scope.names []) (doc := doc) (pm := pm) (cv := .ref c') (ctv := ctv) df1 B
  refine PySem.W.callWith_F0 ⟨_, _, _, _, here⟩ ?_
  have un : Un (frs X.stack) [] H HZ s.heap s1.heap := I1.base
  obtain ⟨⟨oc, vs, t, co1, co2, co3⟩, _, _⟩ := I1.hok c' _ isC
  have run : codeAny (model X.prog X.w) (X.A.deeper (envOfC qg sg s.heap.objs.size g cdg)) (.call (.ref f) ⟨[], []⟩) (CR (L2N.CX X.prog X.w) (envOfC qg sg s.heap.objs.size g cdg :: X.stack) X.prog X.w HZ s1 Q fun cls dx H' => W cls dx σZ H') s1 := by
    refine PySem.W.kla_callFunE hr.depth here rfl L.co L.gen rfl ⟨c', oc, vs, t, rfl, co1, co2, co3⟩ ?_
    apply bi
    refine wpAny_newFunctionEnv (fun y hy => L.noc y hy) (fun y hy => L.par _ (par y hy)) (fun h₁ hns sb => ⟨I1.nolimit.fresh _ sb, ?_⟩) L.kind
    have keep : ∀ b o, s1.heap.get? b = some o → h₁.get? b = some o := fun b o e => sb.extBut b o (Nat.ne_of_lt (Heap.lt_size e)) (Heap.get?_push_of_some _ e)
    have J : Inv (lamC X (X.A.deeper (envOfC qg sg s.heap.objs.size g cdg)) (envOfC qg sg s.heap.objs.size g cdg :: X.stack) s1 HZ (fun cls dx H' => W cls dx σZ H') scope f c') [] σ HZ { s1 with heap := h₁, toks := s1.toks + bs.length } :=
      lam_enter I L I1.env0 hr.hd un hns keep
    change codeAny _ _ (.expr body (lEnv X scope s1.heap.objs.size f c')) _ _
    refine PySem.W.kla_codeExpr (wpAny_mono ((hbody (fun cls dx H' => W cls dx σZ H') (X.A.deeper (envOfC qg sg s.heap.objs.size g cdg)) (envOfC qg sg s.heap.objs.size g cdg :: X.stack) s1 HZ hg (hr.deeper _)).run [] _ _ HZ Q J want) (fun v s' got => ?_) fun e s' got => got)
    obtain ⟨w', H', J', rv, q⟩ := got
    exact ⟨w', H', J'.os, J'.bare, J'.base, J'.hok, rv, q⟩
  refine wpAny_call (codeAny_mono run fun r s' got => ?_)
  cases r with
  | error e => exact tk e s' (L2N.XE.of_call I1 (fun _ _ _ h => h) got)
  | ok fl =>
    cases fl with
    | ret u => exact I1.after got
    | next => exact False.elim got
    | brk => exact False.elim got
    | cont => exact False.elim got
end
end DS
end
section
set_option maxRecDepth 100000
set_option maxHeartbeats 1000000
/-! DX10: a def that is given a lambda, calls it in a try and tells what came. -/
namespace DS
open PySem PySem.Spec PyProof.Rows L2
/-! ### the table of code objects grows -/
section
variable {G : Gd} {F : FS} {H H1 : Hp} {σ : L2.St} {δ : Dst}
theorem Hold.tab {P c' : Addr} {q : Str} {ps : Array Value} (I : Hold G F δ σ H) (mem : (P, q) ∈ TK G.K) (one : ∀ p ∈ TK G.K, p.1 = P → p.2 = q) (hP : H P = some (.tbl ps)) (ht : TriplesOk ps.toList)
    (hin : ∀ (pos : Pos) (cv : Value), codeAmong pos ps.toList = some cv → ∃ c, cv = .ref c ∧ F c ∧ H c = some (LamX.CodeO c q)) (t : TabTo H P q ps c' H1) :
    ∃ F2, Hold G F2 δ σ H1 ∧ Stp G σ δ F H δ F2 H1 := by
  rcases t with ⟨e, _⟩ | ⟨nC, pos, e⟩
  · subst e
    exact ⟨F, I, Stp.refl⟩
  · obtain ⟨c0, cOff, cNf⟩ := I.bas.free nC
    have nPF : ¬ F P := (I.bas.tab.trk mem).2
    have at_ : ∀ b, b ≠ P → b ≠ c' → H1 b = H b := fun b h1 h2 => by rw [e, upd_ne h2, upd_ne h1]
    have ne_ : ∀ b, H b ≠ none → b ≠ c' := fun b h z => h (by rw [z]; exact nC)
    have atP : H1 P = some (.tbl (ps ++ #[rawInt pos.line, rawInt pos.col, .ref c'])) := by rw [e, upd_ne (ne_ P (by rw [hP]; simp)), upd_same]
    have atC : H1 c' = some (LamX.CodeO c' q) := by rw [e, upd_same]
    have frozen : ∀ a, F a → H1 a = H a := fun a f => at_ a (fun z => nPF (by rw [← z]; exact f)) (ne_ a (I.bas.trk a f))
    have ex : Ext F H (frz1 F c') H1 := ⟨fun _ h => .inl h, fun a o f h => by rw [frozen a f]; exact h⟩
    have off_ : ∀ a, H a ≠ none → G.off a → H1 a = H a := fun a h o => at_ a (fun z => o.tab _ mem z.symm) (ne_ a h)
    have trk_ : ∀ a, H a ≠ none → H1 a ≠ none := fun a h => by
      by_cases z : a = P
      · rw [z, atP]; simp
      · rw [at_ a z (ne_ a h)]; exact h
    have bas : Bas G (frz1 F c') H1 δ.n := by
      refine ⟨fun a h => .inl (I.bas.sub a h), fun a h => h.elim (I.bas.new a) fun z => .inr (by rw [z]; exact c0), fun b o h np => ?_, fun a h => ?_, I.bas.pen.ext ex fun p hp => ⟨?_, fun f => ?_⟩, fun p hp => ?_⟩
      · have z := I.bas.old b o h np
        rw [off_ b (by rw [z]; simp) np]
        exact z
      · rcases h with h | h
        · exact trk_ a (I.bas.trk a h)
        · rw [h, atC]; simp
      · have z := (PenOk.trk (G := G) I.bas.pen hp).1
        refine at_ p (fun w => ?_) (ne_ p z)
        have q' := I.bas.pen
        unfold PenOk at q'
        rw [hp] at q'
        obtain ⟨_, _, _, _, _, w1, _⟩ := q'
        rw [w, hP] at w1
        cases w1
      · rcases f with f | f
        · exact (PenOk.trk (G := G) I.bas.pen hp).2 f
        · exact cOff.pen (by rw [← f]; exact hp)
      · have nF : ¬ frz1 F c' p.1 := fun f => f.elim (I.bas.tab.trk hp).2 fun z => cOff.tab p hp z
        by_cases z : p.1 = P
        · refine ⟨_, by rw [z]; exact atP, nF, ?_, fun pos' cv hc => ?_⟩
          · have el : (ps ++ #[rawInt pos.line, rawInt pos.col, .ref c']).toList = ps.toList ++ [rawInt pos.line, rawInt pos.col, .ref c'] := by simp
            rw [el]
            exact PySem.TriplesOk_snoc _ _ _ _ ht
          · have el : (ps ++ #[rawInt pos.line, rawInt pos.col, .ref c']).toList = ps.toList ++ [rawInt pos.line, rawInt pos.col, .ref c'] := by simp
            rw [el] at hc
            rw [one p hp z]
            rcases LamX.among_app _ ht hc with w | w
            · obtain ⟨c2, w1, w2, w3⟩ := hin pos' cv w
              exact ⟨c2, w1, .inl w2, by rw [frozen c2 w2]; exact w3⟩
            · exact ⟨c', w, .inr rfl, atC⟩
        · obtain ⟨qs, w1, w2, w3, w4⟩ := I.bas.tab p hp
          refine ⟨qs, by rw [at_ p.1 z (ne_ p.1 (by rw [w1]; simp))]; exact w1, nF, w3, fun pos' cv hc => ?_⟩
          obtain ⟨c2, v1, v2, v3⟩ := w4 pos' cv hc
          exact ⟨c2, v1, .inl v2, by rw [frozen c2 v2]; exact v3⟩
    refine ⟨frz1 F c', ⟨bas, I.len, fun i d h => ?_, fun i d h => ?_, I.dis⟩, ex, fun _ x h => ⟨x, h⟩, fun a o h np _ => ?_, fun a f => f.elim .inl fun z => .inr (.inl (by rw [z]; exact nC)), trk_⟩
    · obtain ⟨v, h1, h2⟩ := I.fro i d h
      exact ⟨v, h1, h2.ext ex⟩
    · obtain ⟨a, h1, h2⟩ := I.own i d h
      have ta := h2.at_.trk
      exact ⟨a, h1, h2.ext ex (off_ a ta h2.np) fun f => f.elim h2.nf fun z => ta (by rw [z]; exact nC)⟩
    · rw [off_ a (by rw [h]; simp) np]; exact h
/-! ### slots -/
/-- what the lambda reads is frozen -/
def frzD (δ : Dst) : List Nat → Dst
  | [] => δ
  | i :: fv => frzD (match δ.sl[i]? with
    | some (some (true, d)) => δ.put i (some (false, d))
    | _ => δ) fv
def maskD (δ : Dst) : Dst := ⟨δ.sl.map fun r => match r with
  | some (false, d) => some (false, d)
  | _ => none, δ.n⟩
theorem Hold.frzD : ∀ (fv : List Nat) {δ : Dst} {F : FS}, Hold G F δ σ H → ∃ F2, Hold G F2 (DS.frzD δ fv) σ H ∧ Stp G σ δ F H (DS.frzD δ fv) F2 H
  | [], δ, F, I => ⟨F, I, Stp.refl⟩
  | i :: fv, δ, F, I => by
    unfold DS.frzD
    split
    · rename_i d q
      obtain ⟨a, h1, I', s', _⟩ := I.frzSlot q
      obtain ⟨F2, I2, s2⟩ := Hold.frzD fv I'
      exact ⟨F2, I2, s'.trans s2⟩
    · exact Hold.frzD fv I
theorem mask_at {δ : Dst} {i : Nat} {r : Bool × D} (h : (maskD δ).sl[i]? = some (some r)) : r.1 = false ∧ δ.sl[i]? = some (some (false, r.2)) := by
  unfold maskD at h
  dsimp only at h
  rw [List.getElem?_map] at h
  cases q : δ.sl[i]? with
  | none => rw [q] at h; cases h
  | some x =>
    rw [q] at h
    match x, h with
    | some (false, d), h => cases h; exact ⟨rfl, rfl⟩
    | some (true, d), h => cases h
    | none, h => cases h
/-- a state in which all is frozen -/
theorem hold_flat {F : FS} {δ : Dst} (B : Bas G F H δ.n) (len : δ.sl.length = σ.length) (fr : ∀ (i : Nat) (r : Bool × D), δ.sl[i]? = some (some r) → r.1 = false ∧ ∃ v, σ[i]? = some (some v) ∧ Rep G.K G.pa F H v r.2) : Hold G F δ σ H :=
  ⟨B, len, fun i d h => (fr i _ h).2, fun i d h => absurd (fr i _ h).1 (by simp), fun i j d e a _ h => absurd (fr i _ h).1 (by simp)⟩
theorem Hold.mask {F : FS} {pa : Option Addr} {K : KF} {F0 : FS} {H0 : Hp} (I : Hold ⟨K, F0, H0, pa⟩ F δ σ H) : Hold ⟨K, F, H, pa⟩ F (maskD δ) σ H :=
  hold_flat ⟨fun _ h => h, fun _ h => .inl h, fun _ _ h _ => h, I.bas.trk, I.bas.pen, I.bas.tab⟩ (by unfold maskD; simpa using I.len) fun i r h => ⟨(mask_at h).1, I.fro i _ (mask_at h).2⟩
end
/-- the state of the def that asks: found, caught -/
def heardS (L fi ci : Nat) (x y : D) (n : Nat) : Dst := ⟨((List.replicate L none).set fi (some (false, x))).set ci (some (false, y)), n⟩
theorem heard_at {L fi ci : Nat} {x y : D} {n i : Nat} {r : Bool × D} (h : (heardS L fi ci x y n).sl[i]? = some (some r)) : (i = ci ∧ r = (false, y)) ∨ (i ≠ ci ∧ i = fi ∧ r = (false, x)) := by
  unfold heardS at h
  dsimp only at h
  by_cases z : ci = i
  · subst z
    rw [List.getElem?_set] at h
    split at h
    · split at h
      · cases h; exact .inl ⟨rfl, rfl⟩
      · cases h
    · rename_i w; exact absurd rfl w
  · rw [List.getElem?_set_ne z] at h
    by_cases z2 : fi = i
    · subst z2
      rw [List.getElem?_set] at h
      split at h
      · split at h
        · cases h; exact .inr ⟨fun w => z w.symm, rfl, rfl⟩
        · cases h
      · rename_i w; exact absurd rfl w
    · rw [List.getElem?_set_ne z2] at h
      obtain ⟨hj, e⟩ := List.getElem?_eq_some_iff.mp h
      rw [List.getElem_replicate] at e
      cases e
/-- m: the lambda's reading; fr: what is done with what came -/
def fHeard (cs : List Str) (L fi ci : Nat) (fr : FSt) (fv : List Nat) (m : FX D) : FX D := fun _ δ Q =>
  m (fun x n => x.c ∈ cs ∧ fr NoE ⟨fun _ => False, fun d n => Q d ⟨(frzD δ fv).sl, n⟩, fun _ => False, fun _ => False⟩ (heardS L fi ci .non (.exc x.c x.fs x.xs) n)) (maskD (frzD δ fv))
    (fun d δ' => fr NoE ⟨fun _ => False, fun d n => Q d ⟨(frzD δ fv).sl, n⟩, fun _ => False, fun _ => False⟩ (heardS L fi ci d .non δ'.n))
/-- a, b = None, None: the pair is laid first -/
def tPar2 (i j : Nat) : TS := fun D σ H => ∀ p, H p = none → D.nx ((σ.set i (some .non)).set j (some .non)) (upd H p (.tup [.non, .non]))
theorem ps_none2 {X : Cx} {i j : Nat} {x y : Str} {px py pt pos : Pos} {q1 q2 : Pos} {j1 j2 : Nat} {kt k2 pt2} (hc : X.calm = true) (hN : X.N.Nodup) (hi : X.N[i]? = some x) (hj : X.N[j]? = some y)
    (hx : Loc X.env.scope x) (hy : Loc X.env.scope y)
    (fx : X.fn x = true ∨ X.env.scope.names.lookup x = some .local := by first | exact .inl rfl | exact .inr rfl) (fy : X.fn y = true ∨ X.env.scope.names.lookup y = some .local := by first | exact .inl rfl | exact .inr rfl)
    (hs : swapsWithSole [.Tuple [.Name x px, .Name y py] kt pt] (.Tuple [.Constant .none j1 q1, .Constant .none j2 q2] k2 pt2) pos.line X.env = pure false := by rfl) (hw : swappedStores [.Tuple [.Name x px, .Name y py] kt pt] (.Tuple [.Constant .none j1 q1, .Constant .none j2 q2] k2 pt2) X.env = pure none := by rfl)
    (h1 : (assignEach [.Tuple [.Name x px, .Name y py] kt pt] X.env).map (·.2) = [assign (.Tuple [.Name x px, .Name y py] kt pt) X.env] := by rfl)
    (hn : (assignEach [.Name x px, .Name y py] X.env).length = 2 := by rfl) (hst : (assignEach [.Name x px, .Name y py] X.env).findIdx? (·.1) = none := by rfl)
    (hq : (assignEach [.Name x px, .Name y py] X.env).map (·.2) = assign (.Name x px) X.env :: (assignEach [.Name y py] X.env).map (·.2) := by rfl) (hq2 : (assignEach [.Name y py] X.env).map (·.2) = assign (.Name y py) X.env :: (assignEach [] X.env).map (·.2) := by rfl) :
    PS X (.Assign [.Tuple [.Name x px, .Name y py] kt pt] (.Tuple [.Constant .none j1 q1, .Constant .none j2 q2] k2 pt2) pos) (tPar2 i j) :=
  PS.imp (ps_asg (pe_tup (pa_cons pe_non (pa_cons pe_non pa_nil))) (pg_tup hc (pgs_cons (pg_name hN hi hx fx) (pgs_cons (pg_name hN hj hy fy) pgs_nil hq2) hq) hn hst) hs hw h1) fun D σ H h =>
    ⟨by show 2 ≤ sizeLine; decide, fun p hp => ⟨p, [.non, .non], rfl, .inl (.inl upd_same), rfl, .non, [.non], rfl, .non, [], rfl, rfl, h p hp⟩⟩
section
variable {X : Cx} {E : XK}
theorem dg_heard {hd a found caught n x : Str} {pg : Arguments} {st1 : Stmt} {rest : List Stmt} {sg : Scope} {Ng ps : List Str} {fi ci ei k : Nat} {fd : FuncData} {cs : List Str} {fr : FSt} {params : Arguments} {lbody : Expr} {lscope : Scope} {d : Option Int} {c P : Addr} {CS : Addr} {m : FX D} (fv : List Nat)
    {p lpos pos fp p1 p2 sp np mp vp sp2 pos1 pos2 : Pos}
    (Dh : FunD X.K hd hd pg (st1 :: .Try [.Assign [.Name found fp] (.Call (.Name a p1) [] [] p2) sp] [.ExceptHandler (some (.Name x np)) (some n) [.Assign [.Name caught mp] (.Name n vp) sp2] pos1] [] [] pos2 :: rest) sg [] [] (He.ga X.K hd) fd)
    (Sg : FnScope Ng [a] sg) (hb : ∀ (kV doc pm : Value) (an : Option Addr) (cdv ct : Value) (us : List Value), us.length = 1 → bindArgs (PySem.W.fnOf hd hd pg (st1 :: .Try [.Assign [.Name found fp] (.Call (.Name a p1) [] [] p2) sp] [.ExceptHandler (some (.Name x np)) (some n) [.Assign [.Name caught mp] (.Name n vp) sp2] pos1] [] [] pos2 :: rest) sg .none kV doc pm an cdv ct) ⟨us, []⟩ = pure ([a].zip us))
    (ix : Ng[0]? = some a ∧ Ng[fi]? = some found ∧ Ng[ci]? = some caught ∧ Ng[ei]? = some n) (ne : 0 ≠ fi ∧ 0 ≠ ci ∧ fi ≠ ci ∧ fi ≠ ei ∧ ci ≠ ei)
    (lo : sg.names.lookup a = some .local ∧ sg.names.lookup found = some .local ∧ sg.names.lookup caught = some .local ∧ sg.names.lookup n = some .local ∧ sg.names.lookup x = some .globalImplicit)
    (h1 : ∀ (cdv : Value) (A : Around) (outer : List Env) (s : Shared) (H : Hp) (E : XK), PS (cxOf (L2N.CX X.prog X.w) X.prog X.w X.K X.mg X.base Ng hd sg (He.ga X.K hd) cdv A outer s H E) st1 (tPar2 fi ci))
    (hrest : ∀ (cdv : Value) (A : Around) (outer : List Env) (s : Shared) (H : Hp) (E : XK), Bare A → Room (k + 1) (A.deeper (envOfC hd sg s.heap.objs.size (He.ga X.K hd) cdv)) → DSs (cxOf (L2N.CX X.prog X.w) X.prog X.w X.K X.mg X.base Ng hd sg (He.ga X.K hd) cdv A outer s H E) E rest fr)
    (mx : X.mg x = some (.ref CS)) (hex : ∀ c ∈ cs, PySem.W.exmOne X.K (.ref (He.ga X.K c)) (.ref CS) = some true)
    (hg0 : Bare X.A) (hr : Room (k + 2) X.A) (hg : Gl X hd) (hm : X.mg hd = some (.ref (He.ga X.K hd)))
    (TB : LamX.TabB X.base X.mg c P) (hcode : X.env.code = .ref c) (mem : (P, lamQ X) ∈ TK X.K) (one : ∀ p ∈ TK X.K, p.1 = P → p.2 = lamQ X)
    (L : LamOk X.env.scope X.N lscope ps) (B : LamB params lbody lscope ps d) (df : DefOk params X.env d)
    (hbody : ∀ (E : XK) (A : Around) (outer : List Env) (s1 : Shared) (H1 : Hp) (f c' : Addr), Bare A → Room k (A.deeper (lEnv X lscope s1.heap.objs.size f c')) → DG (lamC X A outer s1 H1 E lscope f c') E lbody m)
    (nd : (hd == ("__debug__" : Str)) = false := by decide) (nda : (a == ("__debug__" : Str)) = false := by decide) (nca : (a == ("__classdict__" : Str)) = false := by decide) (ndx : (x == ("__debug__" : Str)) = false := by decide) (ndn : (n == ("__debug__" : Str)) = false := by decide) (ncn : (n == ("__classdict__" : Str)) = false := by decide) :
    DG X E (.Call (.Name hd p) [.Lambda params lbody lscope lpos] [] pos) (fHeard cs Ng.length fi ci fr fv m) := by
  refine ⟨fun pins s σ H Q I h => ?_⟩
  obtain ⟨⟨Kg, F0, H0, pa⟩, F, δ, Qd, Ed, eK, I0, hf, hx, kk⟩ := h
  dsimp only at eK
  subst eK
  obtain ⟨oc, od, dV, kV, doc, pm, an, cdv, ct, osl, eqn, there, code, dflV, _⟩ := Dh.ex
  subst eqn
  obtain ⟨F1, I1, s1⟩ := Hold.frzD fv I0
  obtain ⟨qs, hP, _, tri, hin⟩ := I1.bas.tab _ mem
  have hin2 : ∀ (pos : Pos) (cv : Value), codeAmong pos qs.toList = some cv → ∃ c0, cv = .ref c0 ∧ H c0 = some (LamX.CodeO c0 (lamQ X)) := fun pos cv h => by
    obtain ⟨c0, a1, _, a2⟩ := hin pos cv h
    exact ⟨c0, a1, a2⟩
  refine wpAny_Call_Name_kw (ld_glob I hg hm ?_ nd)
  refine PySem.W.callWith_K (h₀ := X.base) I.ok.mod.kin Dh.kp ?_ (by rfl) (by rfl)
  change wpAny _ _ (spliced ((false, eval (.Lambda params lbody lscope lpos) X.env) :: backTo pos (starEach [] X.env))) _ _ s
  refine Calls.spliced_cons (lam_mk I TB hcode hP tri df hin2 (L.has I.ok) fun f c' dVl docl pml ctv H1 s' J tab dfl at_ n1 n2 isC => ?_)
  refine Calls.spliced_nil ⟨J.kIn, ?_⟩
  obtain ⟨F2, I2, s2⟩ := Hold.tab I1 mem one hP tri hin tab
  have bi : BindsTo s' (PySem.W.fnOf hd hd pg _ sg dV kV doc pm an cdv ct) ⟨[.ref f], []⟩ ([a].zip [.ref f]) := Dh.bindsA (ps := [a]) hb s' [.ref f] rfl
  let Gh : Gd := ⟨X.K, F2, H1, pa⟩
  let VQ : VK := fun v H' => ∃ (F' : FS) (n' : Nat) (dd : D), Bas Gh F' H' n' ∧ Rep X.K pa F' H' v dd ∧ Qd dd ⟨(frzD δ fv).sl, n'⟩
  let Dd : DEn := ⟨fun _ => False, fun d n => Qd d ⟨(frzD δ fv).sl, n⟩, fun _ => False, fun _ => False⟩
  have hf2 : m (fun x n => x.c ∈ cs ∧ fr NoE Dd (heardS Ng.length fi ci .non (.exc x.c x.fs x.xs) n)) (maskD (frzD δ fv)) (fun d δ' => fr NoE Dd (heardS Ng.length fi ci d .non δ'.n)) := hf
  have lenS : (L2.start Ng [.ref f]).length = Ng.length := by
    have := (List.getElem?_eq_some_iff.mp ix.1).1
    unfold L2.start
    simp
    omega
  have len2 : ∀ (x y : D) (n : Nat), (heardS Ng.length fi ci x y n).sl.length = Ng.length := fun x y n => by unfold heardS; simp
  have hfi : fi < Ng.length := (List.getElem?_eq_some_iff.mp ix.2.1).1
  have hci : ci < Ng.length := (List.getElem?_eq_some_iff.mp ix.2.2.1).1
  obtain ⟨ne1, ne2, ne3, ne4, ne5⟩ := ne
  have rc : codeAny (model X.prog X.w) X.A (.call (.ref (He.ga X.K hd)) ⟨[.ref f], []⟩) (CR (L2N.CX X.prog X.w) X.stack X.prog X.w H1 s' VQ E0) s' := by
    refine LamX.run_ofS (N := Ng) (ps := [a]) (us := [.ref f]) (vs := [.ref f]) there code Sg hr J.env0 bi (.cons rfl .nil) rfl fun hr' => ?_
    refine ⟨_, pss_cons (h1 cdv X.A X.stack s' H1 E0) (pss_cons (ps_try_keep (i := ei) (j := ci) (c := .ref CS) (tb := fun W => tAsg (fun σZ HZ Q => σZ[0]? = some (some (.ref f)) ∧ HZ c' = some (LamX.CodeO c' (lamQ X)) ∧ rdA X.K (fun cls dx H' => W cls dx σZ H') okG m σ HZ Q) (L2.gName fi)) rfl rfl rfl Sg.nd ix.2.2.2 lo.2.2.2.1 ix.2.2.1 lo.2.2.1 ⟨lo.2.2.2.2, ndx, .inl mx⟩ (fun W pn xe tk _ => ?_) ndn ncn) (hrest cdv X.A X.stack s' H1 E0 hg0 hr')), ?_⟩
    · exact pss_one (ps_set Sg.nd ix.2.1 (.inl lo.2.1) (pe_ask (i := 0) (tb := fun E => rdA X.K E okG m) J L at_ n1 n2 dfl B tk hg0 hr' (fun E A outer s1 H1 b r => hbody E A outer s1 H1 f c' b r) ix.1 (.inl lo.1) nda nca) (by rfl) (.inr lo.2.1))
    · refine fun pt npt => ?_
      have isC2 : upd H1 pt (.tup [.non, .non]) c' = some (LamX.CodeO c' (lamQ X)) := by rw [upd_ne (fun z => by rw [z, npt] at isC; cases isC)]; exact isC
      generalize eσ : ((L2.start Ng [V.ref f]).set fi (some V.non)).set ci (some V.non) = σ1
      have lenσ : σ1.length = Ng.length := by rw [← eσ]; simpa using lenS
      have at0 : σ1[0]? = some (some (.ref f)) := by
        rw [← eσ, List.getElem?_set_ne (Ne.symm ne2), List.getElem?_set_ne (Ne.symm ne1)]
        rfl
      have atf : σ1[fi]? = some (some V.non) := by
        rw [← eσ, List.getElem?_set_ne (Ne.symm ne3), List.getElem?_set_self (by rw [lenS]; exact hfi)]
      have atc : σ1[ci]? = some (some V.non) := by
        rw [← eσ, List.getElem?_set_self (by rw [List.length_set, lenS]; exact hci)]
      refine ⟨at0, isC2, Gh, F2, maskD (frzD δ fv), fun d δ' => fr NoE Dd (heardS Ng.length fi ci d .non δ'.n), fun x n => x.c ∈ cs ∧ fr NoE Dd (heardS Ng.length fi ci .non (.exc x.c x.fs x.xs) n), rfl, Hold.alloc (Hold.mask I2) npt, hf2, ?_, ?_⟩
      · intro x F3 H3 n3 dx gs hE B3 z0 e3 q3 r3
        refine ⟨hex x.c hE.1, fun ae na => ?_⟩
        have dxo : Gh.off dx := B3.offX e3
        have ndx2 : dx ≠ ae := fun z => by rw [z, na] at e3; cases e3
        obtain ⟨a0, aOff, aNf⟩ := Bas.free (δ := ⟨[], n3⟩) B3 na
        have B4 : Bas Gh F3 (upd H3 ae (XZ ae (.ref (He.ga X.K x.c)) (some dx))) n3 := Bas.alloc (δ := ⟨[], n3⟩) B3 na
        have e4 : upd H3 ae (XZ ae (.ref (He.ga X.K x.c)) (some dx)) dx = some (.xd gs) := by rw [upd_ne ndx2]; exact e3
        have B5 : Bas Gh (frz1 F3 dx) (upd H3 ae (XZ ae (.ref (He.ga X.K x.c)) (some dx))) n3 := Bas.frz (δ := ⟨[], n3⟩) B4 z0 dxo (by rw [e4]; simp)
        have B6 : Bas Gh (frz1 (frz1 F3 dx) ae) (upd H3 ae (XZ ae (.ref (He.ga X.K x.c)) (some dx))) n3 := Bas.frz (δ := ⟨[], n3⟩) B5 a0 aOff (by rw [upd_same]; simp)
        have ex : Ext F3 H3 (frz1 (frz1 F3 dx) ae) (upd H3 ae (XZ ae (.ref (He.ga X.K x.c)) (some dx))) := ⟨fun _ h => .inl (.inl h), fun b o hb h => by rw [upd_ne (fun z => by rw [z, na] at h; cases h)]; exact h⟩
        refine ⟨Gh, _, heardS Ng.length fi ci .non (.exc x.c x.fs x.xs) n3, Dd, NoE, rfl, hold_flat B6 ?_ (fun i r h => ?_), hE.2, XOk.none, ?_⟩
        · rw [len2]; simpa using lenσ.symm
        · rcases heard_at h with ⟨z1, z2⟩ | ⟨z0, z1, z2⟩
          · subst z1 z2
            refine ⟨rfl, .ref ae, ?_, .exc (.inr rfl) upd_same (.inl (.inr rfl)) e4 q3 (RepAll.ext ex _ r3)⟩
            rw [List.getElem?_set_ne (Ne.symm ne5), List.getElem?_set_self (by rw [List.length_set, lenσ]; exact hci)]
          · subst z1 z2
            refine ⟨rfl, .non, ?_, .non⟩
            rw [List.getElem?_set_ne (Ne.symm ne4), List.getElem?_set_ne (Ne.symm ne3), List.getElem?_set_ne (Ne.symm ne4)]
            exact atf
        · exact ⟨fun _ _ _ _ z => z.elim, fun d n F H v q b r => ⟨F, n, d, b, r, q⟩, fun _ _ _ _ z => z.elim, fun _ _ _ _ z => z.elim⟩
      · intro dd δ' F3 H3 v q3 I3 st3 r3
        refine ⟨Gh, F3, heardS Ng.length fi ci dd .non δ'.n, Dd, NoE, rfl, hold_flat I3.bas ?_ (fun i r h => ?_), q3, XOk.none, ?_⟩
        · rw [len2]; simpa using lenσ.symm
        · rcases heard_at h with ⟨z1, z2⟩ | ⟨z0, z1, z2⟩
          · subst z1 z2
            refine ⟨rfl, .non, ?_, .non⟩
            rw [List.getElem?_set_ne ne3]
            exact atc
          · subst z1 z2
            refine ⟨rfl, v, ?_, r3⟩
            rw [List.getElem?_set_self (by rw [lenσ]; exact hfi)]
        · exact ⟨fun _ _ _ _ z => z.elim, fun d n F H v q b r => ⟨F, n, d, b, r, q⟩, fun _ _ _ _ z => z.elim, fun _ _ _ _ z => z.elim⟩
  refine wpAny_call (codeAny_mono rc fun r s3 got => ?_)
  cases r with
  | error e =>
    obtain ⟨_, _, _, _, _, _, _, _, _, _, _, _, z⟩ := got
    exact z.elim
  | ok fl =>
    cases fl with
    | ret u =>
      obtain ⟨v, H3, J3, rv, F', n', dd, B', r', q'⟩ := J.after got
      obtain ⟨I3, s3⟩ := I2.call B'
      exact ⟨v, H3, J3, rv, kk dd _ F' _ v q' I3 ((s1.trans s2).trans s3) r'⟩
    | next => exact False.elim got
    | brk => exact False.elim got
    | cont => exact False.elim got
end
end DS
end
section
set_option maxRecDepth 100000
set_option maxHeartbeats 1000000
/-! DX11: the head and the end of the law where lambdas are made and exceptions are raised. -/
namespace DS
open PySem PySem.Spec PyProof.Rows L2
/-! ### the tables of the code objects that K knows -/
def codesB (K : KF) : Bool := K.all fun p => match p.2 with
  | ⟨.type "code", _, .fields vs, _⟩ => (match (vs[11]? : Option Value), (vs[1]? : Option Value) with
    | some (.ref P), some (.str _ _) => PySem.W.codeHdIn K p.1 P
    | _, _ => true)
  | _ => true
/-- no two of one table with different names -/
def oneB (K : KF) : Bool := (TK K).all fun p => (TK K).all fun q => p.1 != q.1 || p.2 == q.2
/-- the records that bear a name of qs are code objects with tables -/
def namedB (K : KF) (qs : List Str) : Bool := K.all fun p => match p.2 with
  | ⟨c, _, .fields vs, _⟩ => (match vs.toList with
    | _ :: .str n _ :: _ => !qs.contains n || (c == .type "code" && (match (vs[11]? : Option Value) with
      | some (.ref P) => PySem.W.codeHdIn K p.1 P
      | _ => false))
    | _ => true)
  | _ => true
theorem tk_code {K : KF} (h : codesB K = true) {p : Addr × Str} (m : p ∈ TK K) : ∃ c, PySem.W.codeHdIn K c p.1 = true := by
  unfold TK at m
  obtain ⟨e, h1, h2⟩ := List.mem_filterMap.mp m
  have h3 := List.all_eq_true.mp h e h1
  obtain ⟨a, o⟩ := e
  dsimp only at h2 h3
  split at h2
  · rename_i dd vs sl
    split at h2
    · rename_i P q t e1 e2
      simp only [e1, e2] at h3
      cases h2
      exact ⟨a, h3⟩
    · cases h2
  · cases h2
/-- a def's own code object and its table -/
structure LamK (K : KF) (cdv : Value) (qual : Str) (c P : Addr) : Prop where
  eq : cdv = .ref c
  mem : (P, qual ++ ".<locals>." ++ "<lambda>") ∈ TK K
  code : PySem.W.codeHdIn K c P = true
  one : ∀ p ∈ TK K, p.1 = P → p.2 = qual ++ ".<locals>." ++ "<lambda>"
theorem lamK_of {K : KF} {qs : List Str} (h : namedB K qs = true) (o : oneB K = true) {cdv : Value} {qual : Str} (hq : qual ∈ qs) (e : PySem.W.codeIn K cdv qual = true) : ∃ c P, LamK K cdv qual c P := by
  unfold PySem.W.codeIn at e
  split at e
  · rename_i c
    split at e
    · rename_i cl dd vs sl lk
      split at e
      · rename_i v0 n t r el
        have en : n = qual := by simpa using e
        subst en
        have mm : (c, (⟨cl, dd, .fields vs, sl⟩ : Obj)) ∈ K := He.lookup_mem lk
        have h3 := List.all_eq_true.mp h _ mm
        dsimp only at h3
        rw [el] at h3
        dsimp only at h3
        rw [List.contains_iff_mem.mpr hq] at h3
        simp only [Bool.not_true, Bool.false_or, Bool.and_eq_true, beq_iff_eq] at h3
        obtain ⟨h4, h5⟩ := h3
        subst h4
        have e1 : (vs[1]? : Option Value) = some (.str n t) := by
          rw [← Array.getElem?_toList, el]; rfl
        split at h5
        · rename_i P e11
          have mem : (P, n ++ ".<locals>." ++ "<lambda>") ∈ TK K := List.mem_filterMap.mpr ⟨_, mm, by simp only [e11, e1]⟩
          refine ⟨c, P, rfl, mem, h5, fun p hp z => ?_⟩
          have q := List.all_eq_true.mp (List.all_eq_true.mp o p hp) _ mem
          dsimp only at q
          rw [z] at q
          simpa using q
        · cases h5
      · cases e
    · cases e
  · cases e
/-- what the making of lambdas asks of the base -/
def TabA (K : KF) (base : Heap) (mg : Str → Option Value) : Prop := ∀ (c P : Addr) (q : Str), (P, q) ∈ TK K → PySem.W.codeHdIn K c P = true → LamX.TabB base mg c P
/-- the tables, empty, not in K -/
structure TabH (K : KF) (h : Heap) : Prop where
  codes : codesB K = true
  out : ∀ p ∈ TK K, K.lookup p.1 = none
  empty : ∀ p ∈ TK K, h.get? p.1 = some { cls := .none, data := .fields #[] }
def tabHB (g : Addr → Option Obj) (K : KF) : Bool := (TK K).all fun p => match g p.1 with
  | some o => He.emptyTab o
  | none => false
/-! ### the hook -/
abbrev AlY : Type := AlX × List InW
def frY (n : Nat) (g : Addr → Option Obj) : KF := He.frT g (He.asD g n ++ [cStatics])
def obsY (n : Nat) (fa : List He.Fa) (fn : List He.DefD) (ts : List He.Tab) (xs : List Str) (vb : KF → Bool) (g : Addr → Option Obj) : AlY :=
  ((He.obsT fa fn ts (frY n g), vb (frY n g) && (codesB (frY n g) && tabHB g (frY n g))), xs.map fun x => initW (frY n g) x)
structure SaysY (fa : List He.Fa) (fn : List He.DefD) (ts : List He.Tab) (xs : List (Str × InW)) (vb : KF → Bool) (w : World) (h : Heap) (K : KF) : Prop where
  says : SaysX fa fn ts vb w K
  tab : TabH K h
  ini : ∀ p ∈ xs, initW K p.1 = p.2
def hookY (n : Nat) (fa : List He.Fa) (fn : List He.DefD) (ts : List He.Tab) (xs : List (Str × InW)) (vb : KF → Bool) : PySem.W.Hook where
  α := AlY
  obs := fun s => obsY n fa fn ts (xs.map (·.1)) vb s.heap.get?
  val := fun w => ((He.valT fn ts w, true), xs.map (·.2))
  says := fun w h => ∃ K : KF, K.In h ∧ SaysY fa fn ts xs vb w h K
  of := fun w s e => by
    have e1 : He.obsT fa fn ts (frY n s.heap.get?) = He.valT fn ts w := congrArg (fun z : AlY => z.1.1) e
    have e2 : (vb (frY n s.heap.get?) && (codesB (frY n s.heap.get?) && tabHB s.heap.get? (frY n s.heap.get?))) = true := congrArg (fun z : AlY => z.1.2) e
    have e3 : (xs.map (·.1)).map (fun x => initW (frY n s.heap.get?) x) = xs.map (·.2) := congrArg (fun z : AlY => z.2) e
    obtain ⟨v1, v2⟩ := Bool.and_eq_true_iff.mp e2
    obtain ⟨v3, v4⟩ := Bool.and_eq_true_iff.mp v2
    have each : ∀ p ∈ TK (frY n s.heap.get?), ∃ o, s.heap.get? p.1 = some o ∧ He.emptyTab o = true := fun p hp => by
      have q := List.all_eq_true.mp v4 p hp
      cases z : s.heap.get? p.1 with
      | none => rw [z] at q; cases q
      | some o => rw [z] at q; exact ⟨o, rfl, q⟩
    refine ⟨_, He.frT_in, ⟨e1, v1⟩, ⟨v3, fun p hp => ?_, fun p hp => ?_⟩, fun p hp => ?_⟩
    · obtain ⟨o, q, z⟩ := each p hp
      exact He.frT_none q z
    · obtain ⟨o, q, z⟩ := each p hp
      rw [q, He.emptyTab_eq z]
    · rw [List.map_map] at e3
      exact List.map_inj_left.mp e3 p hp
  keeps := fun _ _ _ ⟨K, hK, c⟩ k => ⟨K, PySem.W.Frag.In.keeps hK k, c.says, ⟨c.tab.codes, c.tab.out, fun p hp => k _ _ (c.tab.empty p hp)⟩, c.ini⟩
theorem obsY_eq {n : Nat} {fa : List He.Fa} {fn : List He.DefD} {ts : List He.Tab} {xs : List (Str × InW)} {vb : KF → Bool} {g : Addr → Option Obj} {s : Shared} (h : ∀ a, g a = s.heap.get? a) : obsY n fa fn ts (xs.map (·.1)) vb g = (hookY n fa fn ts xs vb).obs s := by
  have e : g = s.heap.get? := funext h
  rw [e]
  rfl
end DS
end
section
set_option maxRecDepth 100000
set_option maxHeartbeats 1000000
/-! DX12: the law's own call, the tables being tracked. -/
namespace DS
open PySem PySem.Spec PyProof.Rows L2
section
variable {P : Program} {w : World} {K : PySem.W.Frag} {mg : Str → Option Value} {CX : CXT} {k : Nat} {fa a : Addr} {fd : FuncData} {x : Str} {sp : Sp} {s1 : Shared} {vs : List Value} {ns : List Int}
/-- where the module of the builtins lies -/
def BmOk (mg : Str → Option Value) (h : Heap) : Prop := ∃ (bm : Addr) (ob : Obj), mg "__builtins__" = some (.ref bm) ∧ bm ≠ builtinsNs ∧ h.get? bm = some ob ∧ ob.cls = .type "module" ∧ ob.dict = some builtinsNs ∧ ob.data = .plain
theorem law_atT {mb : Str → Option Value} {H : Hp} (kin : K.In s1.heap) (n1 : s1.heap.Ns mainGlobals mg) (n2 : s1.heap.Ns builtinsNs mb) (n3 : ∀ x : Str, x ≠ "__name__" → mb x = bootBuiltins x) (lim : s1.heap.NoLimit) (g0 : s1.gens = #[]) (bmo : BmOk mg s1.heap) (tabs : TabH K s1.heap)
    (obj : s1.heap.get? a = some { cls := .type "list", data := .seq vs.toArray }) (room : Room k callerA)
    (F : ∀ base : Heap, K.In base → base.Ns mainGlobals mg → TabA K base mg → FnG P w K mg base CX k fa fd [x] sp) (bi : ∀ (s : Shared) (u : Value), BindsTo s fd ⟨[u], []⟩ [(x, u)])
    (want : sp [.ref a] H (fun v _ => v = .bl true) fun _ _ _ => False) (noX : ∀ e s', CX [] H s1 (fun _ _ _ => False) e s' → False)
    (full : ∀ p ∈ TK K, H p.1 = some (.tbl #[])) (only : ∀ b, H b = none ∨ (∃ p ∈ TK K, p.1 = b) ∨ ∃ o xs, H b = some (.frz o (.lst xs))) (held : HOk P w H s1.heap) (just : ∀ b, H b ≠ none → b = a ∨ ∃ p ∈ TK K, p.1 = b) (apart : H a ≠ none → K.lookup a = none) :
    codeAny (model P w) callerA (.call (.ref fa) ⟨[.ref a], []⟩) (fun r s' => r = .ok (.ret (.bool true)) ∧ OldK s1.heap s'.heap ∧ s'.os = s1.os ∧ AllBare s'.gens) s1 := by
  have off : ∀ {b : Addr} {o : Obj}, s1.heap.get? b = some o → (∀ us n, o.data ≠ .seq us n) → o.data ≠ .fields #[] → H b = none := fun {b o} e h1 h2 => Classical.byContradiction fun t => by
    rcases just b t with z | ⟨p, hp, z⟩
    · rw [z, obj] at e
      cases e
      exact h1 _ _ rfl
    · have q := tabs.empty p hp
      rw [z, e] at q
      cases q
      exact h2 rfl
  have offD : ∀ {b : Addr} {o : Obj} {es : Array DictEntry} {ep : Nat}, s1.heap.get? b = some o → o.data = .dict es ep → H b = none := fun {b o es ep} e d => off e (fun us n z => by rw [d] at z; cases z) fun z => by rw [d] at z; cases z
  have ns' : ∀ {b : Addr} {m : Str → Option Value}, s1.heap.Ns b m → (hidT s1.heap H).Ns b m := by
    rintro b m ⟨o, es, ep, q, d, r⟩
    exact ⟨o, es, ep, hidT_get q (offD q d), d, r⟩
  have kin' : K.In (hidT s1.heap H) := by
    intro b o q
    refine hidT_get (kin b o q) (Classical.byContradiction fun t => ?_)
    rcases just b t with z | ⟨p, hp, z⟩
    · subst z
      rw [apart t] at q
      cases q
    · rw [← z, tabs.out p hp] at q
      cases q
  have gl : ∀ p ∈ TK K, mainGlobals ≠ p.1 := fun p hp z => by
    obtain ⟨o, es, ep, e, hd, _⟩ := n1
    rw [z, tabs.empty p hp] at e
    cases e
    cases hd
  have tabA : TabA K (hidT s1.heap H) mg := fun c P' q mem hh => by
    obtain ⟨bm, ob, b1, b2, b3, b4, b5, b6⟩ := bmo
    refine ⟨PySem.W.codeHd_of_K kin' hh, ⟨bm, ob, b1, b2, fun z => ?_, fun z => ?_, hidT_get b3 (off b3 (fun us n z => by rw [b6] at z; cases z) fun z => by rw [b6] at z; cases z), b4, b5, b6⟩, gl _ mem⟩
    · obtain ⟨o, es, ep, e, hd, _⟩ := n1
      rw [z, e] at b3
      cases b3
      rw [hd] at b6
      cases b6
    · have q := tabs.empty _ mem
      dsimp only at q
      rw [← z, b3] at q
      cases q
      cases b6
  obtain ⟨mc, l1, l2⟩ := lim
  have E0 : Env0 P w K mg (hidT s1.heap H) callerA [] s1 H :=
    { frames := rfl, mod := ⟨kin', ns' n1, ⟨mb, ns' n2, n3⟩, ⟨mc, ns' l1, l2⟩⟩, bs := fun b o q => of_hidT q, bsz := Nat.le_of_eq (hidT_size _ _), funs := trivial
      frf := (fun b q => nomatch (show b ∈ ([] : List Addr) from q)), hok := held, bare := .of_eq g0 }
  refine codeAny_mono ((F _ kin' (ns' n1) tabA).go callerA [] s1 H _ [.ref a] [.ref a] _ _ rfl room E0 (bi s1 _) (.cons rfl .nil) want) ?_
  intro r s2 fin
  match r, fin with
  | .error e, fin => exact (noX e s2 fin).elim
  | .ok (.ret u), ⟨v, H2, os2, bare2, un, held2, rel, yes⟩ =>
    subst yes
    obtain rfl : u = .bool true := rel
    have grown : ∀ p ∈ TK K, ∃ more : Array Value, s2.heap.get? p.1 = some { cls := .none, data := .fields more } := fun p hp => by
      obtain ⟨more, z⟩ := un.tbls p.1 #[] (full p hp)
      exact ⟨_, held2 p.1 _ z⟩
    have rest : ∀ b o, (¬ ∃ p ∈ TK K, p.1 = b) → s1.heap.get? b = some o → s2.heap.get? b = some o := fun b o nt q => by
      cases z : H b with
      | none => exact un.keep b o q z (fun m => nomatch (show b ∈ ([] : List Addr) from m)) (by simp)
      | some u =>
        rcases only b with z2 | z2 | ⟨ob, xs, z2⟩
        · rw [z] at z2; cases z2
        · exact absurd z2 nt
        · have before := (held b _ z2).1
          have behind := (held2 b _ (un.frzs b ob _ z2)).1
          rw [q] at before
          rw [Option.some.inj before]
          exact behind
    refine ⟨rfl, ⟨fun b o e => ?_, fun b o e => ?_⟩, os2, bare2⟩
    · by_cases nt : ∃ p ∈ TK K, p.1 = b
      · obtain ⟨p, hp, z⟩ := nt
        obtain ⟨more, hm⟩ := grown p hp
        obtain ⟨c, hc⟩ := tk_code tabs.codes hp
        have em := tabs.empty p hp
        rw [← z] at e ⊢
        rw [em] at e
        cases e
        exact .inr (.inl ⟨((PySem.W.codeHd_of_K kin hc).tab em).isCodeTable, rfl, #[], more, rfl, by rw [Array.empty_append]; exact hm⟩)
      · exact .inl (rest b o nt e)
    · by_cases nt : ∃ p ∈ TK K, p.1 = b
      · obtain ⟨p, hp, z⟩ := nt
        obtain ⟨more, hm⟩ := grown p hp
        rw [← z]
        exact ⟨_, hm⟩
      · exact ⟨o, rest b o nt e⟩
open Classical in
theorem law_callT {mb : Str → Option Value} (kin : K.In s1.heap) (n1 : s1.heap.Ns mainGlobals mg) (n2 : s1.heap.Ns builtinsNs mb) (n3 : ∀ x : Str, x ≠ "__name__" → mb x = bootBuiltins x) (lim : s1.heap.NoLimit) (g0 : s1.gens = #[]) (bmo : BmOk mg s1.heap) (tabs : TabH K s1.heap)
    (obj : s1.heap.get? a = some { cls := .type "list", data := .seq vs.toArray }) (areInts : IntsAre vs ns) (short : ns.length ≤ sizeLine) (room : Room k callerA)
    (F : ∀ base : Heap, K.In base → base.Ns mainGlobals mg → TabA K base mg → FnG P w K mg base CX k fa fd [x] sp) (bi : ∀ (s : Shared) (u : Value), BindsTo s fd ⟨[u], []⟩ [(x, u)])
    (want : ∀ H : Hp, TabE K H → SqL K H a (ns.map V.int) → sp [.ref a] H (fun v _ => v = .bl true) fun _ _ _ => False) (noX : ∀ H e s', CX [] H s1 (fun _ _ _ => False) e s' → False) :
    codeAny (model P w) callerA (.call (.ref fa) ⟨[.ref a], []⟩) (fun r s' => r = .ok (.ret (.bool true)) ∧ OldK s1.heap s'.heap ∧ s'.os = s1.os ∧ AllBare s'.gens) s1 := by
  have rel := vals_ints areInts
  have aT : ¬ ∃ p ∈ TK K, p.1 = a := fun ⟨p, hp, z⟩ => by
    have q := tabs.empty p hp
    rw [z, obj] at q
    cases q
  by_cases known : K.lookup a = none
  · let so : Obj := { cls := .type "list", data := .seq vs.toArray }
    let H : Hp := fun b => if b = a then some (.frz so (.lst (ns.map V.int))) else if (∃ p ∈ TK K, p.1 = b) then some (.tbl #[]) else none
    have atA : H a = some (.frz so (.lst (ns.map V.int))) := if_pos rfl
    have atT : ∀ p ∈ TK K, H p.1 = some (.tbl #[]) := fun p hp => (if_neg (fun z => aT ⟨p, hp, z⟩)).trans (if_pos ⟨p, hp, rfl⟩)
    have offA : ∀ {b}, b ≠ a → (¬ ∃ p ∈ TK K, p.1 = b) → H b = none := fun n m => (if_neg n).trans (if_neg m)
    refine law_atT kin n1 n2 n3 lim g0 bmo tabs obj room F bi (want H atT (.inl (.inr ⟨so, atA⟩))) (noX H) atT (fun b => ?_) (fun b o q => ?_) (fun b t => ?_) fun _ => known
    · by_cases z : b = a
      · exact .inr (.inr ⟨_, _, z ▸ atA⟩)
      · by_cases m : ∃ p ∈ TK K, p.1 = b
        · exact .inr (.inl m)
        · exact .inl (offA z m)
    · by_cases z : b = a
      · subst z
        rw [atA] at q
        obtain rfl := Option.some.inj q
        exact ⟨obj, by rw [List.length_map]; exact short, vs, _, rel, obj⟩
      · by_cases m : ∃ p ∈ TK K, p.1 = b
        · obtain ⟨p, hp, e⟩ := m
          subst e
          rw [atT p hp] at q
          obtain rfl := Option.some.inj q
          exact tabs.empty p hp
        · rw [offA z m] at q
          cases q
    · by_cases z : b = a
      · exact .inl z
      · exact .inr (Classical.byContradiction fun m => t (offA z m))
  · obtain ⟨o, at_⟩ := Option.ne_none_iff_exists'.mp known
    have same := kin a o at_
    rw [obj] at same
    obtain rfl := Option.some.inj same
    have len : vs.toArray.size ≤ sizeLine := by rw [List.size_toArray, areInts.length]; exact short
    let H : Hp := fun b => if (∃ p ∈ TK K, p.1 = b) then some (.tbl #[]) else none
    have atT : ∀ p ∈ TK K, H p.1 = some (.tbl #[]) := fun p hp => if_pos ⟨p, hp, rfl⟩
    have offT : ∀ {b}, (¬ ∃ p ∈ TK K, p.1 = b) → H b = none := fun m => if_neg m
    refine law_atT (H := H) kin n1 n2 n3 lim g0 bmo tabs obj room F bi (want _ atT (.inr ⟨_, vs.toArray, _, at_, rfl, rfl, rfl, len, rel⟩)) (noX _) atT (fun b => ?_) (fun b o q => ?_) (fun b t => .inr (Classical.byContradiction fun m => t (offT m))) fun t => absurd (offT aT) t
    · by_cases m : ∃ p ∈ TK K, p.1 = b
      · exact .inr (.inl m)
      · exact .inl (offT m)
    · by_cases m : ∃ p ∈ TK K, p.1 = b
      · obtain ⟨p, hp, e⟩ := m
        subst e
        rw [atT p hp] at q
        obtain rfl := Option.some.inj q
        exact tabs.empty p hp
      · rw [offT m] at q
        cases q
theorem walk_ofT {l : PySem.W.OpenLaw} {n : Nat} {q : Program} {loose : List Str} {XP : (Str → Option Value) → Heap → Prop} {YP : World → Heap → Prop} {d : DefRec} {CX : World → CXT}
    (most : l.most = some n) (most2 : n ≤ sizeLine) (noDefaults : d.params.defaults = []) (room : Room k callerA)
    (F : ∀ (w : World) (mg : Str → Option Value) (fa : Addr) (h : Heap), YP w h → h.Ns mainGlobals mg → mg d.name = some (.ref fa) →
      ∃ (K : PySem.W.Frag) (fd : FuncData) (sp : Sp), K.In h ∧ TabH K h ∧ (∀ (s : Shared) (u : Value), BindsTo s fd ⟨[u], []⟩ [(x, u)]) ∧
        (∀ (H : Hp) (a : Addr) (ns : List Int), ns.length ≤ n → TabE K H → SqL K H a (ns.map V.int) → sp [.ref a] H (fun v _ => v = .bl true) fun _ _ _ => False) ∧
        ∀ base : Heap, K.In base → base.Ns mainGlobals mg → TabA K base mg → FnG l.prog w K mg base (CX w) k fa fd [x] sp)
    (noX : ∀ (w : World) (H : Hp) (s : Shared) (e : Value) (s' : Shared), CX w [] H s (fun _ _ _ => False) e s' → False) : PySem.W.WalkO q loose XP YP l.row.toRowW d [] (fun f vs => PySem.call f vs) := by
  apply Att.attach_call most noDefaults
  intro w s0 s1 mg mb fa o pm cd doc a vs ns G Y _ _ _ at_ obj areInts short g0
  obtain ⟨K, fd, sp, kin, tabs, bi, want, all⟩ := F w mg fa _ Y G.T.g at_
  exact law_callT kin G.T.g G.T.b G.T.builtins G.T.nolimit g0 G.T.bmain tabs obj areInts (Nat.le_trans short most2) room all bi (fun H => want H a ns short) fun H => noX w H s1
end
/-- no exception comes out where none is wished -/
theorem noXN {P : Program} {w : World} {H : Hp} {s : Shared} {e : Value} {s' : Shared} (h : L2N.CX P w [] H s (fun _ _ _ => False) e s') : False := by
  obtain ⟨_, _, _, _, _, _, _, _, _, _, _, _, z⟩ := h
  exact z
end DS
end
section
set_option maxRecDepth 100000
set_option maxHeartbeats 1000000
/-! DX13: defs that make lambdas; the classes of exceptions, from the head. -/
namespace DS
open PySem PySem.Spec PyProof.Rows L2
section
variable {P : Program} {w : World} {K : KF} {mg : Str → Option Value} {base : Heap} {x : Str} {params : Arguments} {body : List Stmt} {scope : Scope} {N : List Str} {k : Nat}
/-- FunD.okG, the def's code object told -/
theorem FunD.okL {qual : Str} {dvs : List V} {kws : List (Str × V)} {f : Addr} {fd : FuncData} {CX : CXT} {ps : List Str} {sp : Sp} (F : FunD K x qual params body scope dvs kws f fd) (S : FnScope N ps scope) (ar : ∀ vs H Q E, sp vs H Q E → vs.length = ps.length)
    (inner : ∀ (cdv : Value), PySem.W.codeIn K cdv qual = true → ∀ (A : Around) (fr : List Env) (s : Shared) (H : Hp) (vs : List V) (Q : VK) (E : XK), Bare A → Room k (A.deeper (envOfC qual scope s.heap.objs.size f cdv)) → sp vs H Q E →
      ∃ t, PSs (cxOf CX P w K mg base N qual scope f cdv A fr s H E) body t ∧ t { nx := fun _ H' => Q .non H', rt := Q } (L2.start N vs) H) : FnG P w K mg base CX (k + 1) f fd ps sp := by
  obtain ⟨oc, od, dV, kV, doc, pm, an, cdv, ct, osl, isFd, lies, coded, _, _⟩ := F.ex
  subst isFd
  refine ⟨ar, fun A fr s H arg us vs Q E bare room e0 bi rel want => ?_⟩
  have inK : K.In s.heap := e0.mod.kin.keeps fun b o q => (e0.bs b o q).1
  have noLim : s.heap.NoLimit := e0.mod.nolimit.keeps fun b o q => (e0.bs b o q).1
  refine codeAny_call_function room.depth (inK _ _ lies) rfl S.co S.gen rfl (PySem.W.codeRec_of inK coded) (bi _ _ _ _ ?_)
  refine wpAny_newFunctionEnv_cells S.kind (fun y mem => ?_) fun env isEnv s1 inside => ?_
  · obtain ⟨n, v⟩ := y
    rcases S.par n (List.of_mem_zip mem).1 with l | c
    · exact .inl l
    · exact .inr ⟨c, PySem.W.cellsFrom_some _ _ _ (.inl c)⟩
  · subst isEnv
    refine ⟨noLim.keeps inside.toInCall.keep, codeAny_func ?_⟩
    obtain ⟨t, walk, ends⟩ := inner cdv coded A fr s H vs Q E bare (room.deeper _) want
    have I := inv_start (CX := CX) (E := E) (cd := cdv) S room.hd e0 (ar _ _ _ _ want) rel inside
    refine wpAny_mono (walk.run [] s1 _ H _ I ends) (fun fl s2 out => ?_) fun _ _ z => z
    cases fl with
    | ret u =>
      obtain ⟨v, _, H2, J, rv, q⟩ := out
      exact ⟨v, H2, J.os, J.bare, J.base, J.hok, rv, q⟩
    | next =>
      obtain ⟨_, H2, J, q⟩ := out
      exact ⟨V.non, H2, J.os, J.bare, J.base, J.hok, rfl, q⟩
    | brk =>
      obtain ⟨_, _, _, no⟩ := out
      exact no.elim
    | cont =>
      obtain ⟨_, _, _, no⟩ := out
      exact no.elim
theorem okF_ofL {dvs : List V} {ps : List Str} {C : DC} {g : FSt} {qs : List Str} (F : ∃ fd, FunD K x x params body scope dvs [] (He.ga K x) fd) (S : FnScope N ps scope) (nm : namedB K qs = true) (on : oneB K = true) (hq : x ∈ qs)
    (hl : ∀ ds n Q Ed, C ds n Q Ed → ds.length = ps.length)
    (hw : ∀ (cdv : Value) (A : Around) (outer : List Env) (s : Shared) (H : Hp) (E : XK), (∃ c P, LamK K cdv x c P) → Bare A → Room k (A.deeper (envOfC x scope s.heap.objs.size (He.ga K x) cdv)) → DSs (cxOf (L2N.CX P w) P w K mg base N x scope (He.ga K x) cdv A outer s H E) E body g)
    (hc : ∀ ds n Q Ed, C ds n Q Ed → g Ed ⟨fun δ => Q .non δ.n, Q, fun _ => False, fun _ => False⟩ (startD N ds n)) : OkF P w K mg base x params body scope dvs ps (k + 1) C := by
  obtain ⟨fd, D⟩ := F
  refine ⟨fd, D, FunD.okL D S (fun vs H Q E h => ?_) fun cdv cd A outer s H vs Q E hg hr h => ⟨_, hw cdv A outer s H E (lamK_of nm on hq cd) hg hr, ?_⟩⟩
  · obtain ⟨F0, pa, n, ds, Qd, Ed, h1, h2, h3, h4, _⟩ := h
    rw [h3.len]; exact hl ds n Qd Ed h4
  · obtain ⟨F0, pa, n, ds, Qd, Ed, h1, h2, h3, h4, h5, h6⟩ := h
    exact ⟨⟨K, F0, H, pa⟩, F0, startD N ds n, _, Ed, rfl, hold_start (G := ⟨K, F0, H, pa⟩) h3 h1 h2, hc ds n Qd Ed h4, h5, ⟨fun δ F' σ H' q I' => h6 .non δ.n F' H' .non q I'.bas .non, fun d n' F' H' v q B r => h6 d n' F' H' v q B r, fun _ _ _ _ q => q.elim, fun _ _ _ _ q => q.elim⟩⟩
/-- the law's own def, when it makes lambdas -/
theorem law_fnL {st0 : Stmt} {rest : List Stmt} {m : FSt} {qs : List Str} (F : ∃ fd, FunD K x x params body scope [] [] (He.ga K x) fd) (S : FnScope N ["script"] scope) (nm : namedB K qs = true) (on : oneB K = true) (hq : x ∈ qs) (hb : body = st0 :: rest) (hN : 2 ≤ N.length)
    (h0 : ∀ (cdv : Value) (A : Around) (outer : List Env) (s : Shared) (H : Hp) (E : XK), Bare A → Room k (A.deeper (envOfC x scope s.heap.objs.size (He.ga K x) cdv)) →
      PS (cxOf (L2N.CX P w) P w K mg base N x scope (He.ga K x) cdv A outer s H E) st0 (tAsg (tCall (spPen2 K) [] E (tCons (tVar 0) tNil)) (L2.gName 1)))
    (hw : ∀ (cdv : Value) (A : Around) (outer : List Env) (s : Shared) (H : Hp) (E : XK), (∃ c P, LamK K cdv x c P) → Bare A → Room k (A.deeper (envOfC x scope s.heap.objs.size (He.ga K x) cdv)) → DSs (cxOf (L2N.CX P w) P w K mg base N x scope (He.ga K x) cdv A outer s H E) E rest m)
    (hc : m NoE ⟨fun _ => False, fun d _ => d = .bl true, fun _ => False, fun _ => False⟩ ⟨none :: some (false, .pen) :: List.replicate (N.length - 2) none, 0⟩) :
    ∃ fd, FunD K x x params body scope [] [] (He.ga K x) fd ∧ FnG P w K mg base (L2N.CX P w) (k + 1) (He.ga K x) fd ["script"] (spLaw K) := by
  obtain ⟨fd, FD⟩ := F
  refine ⟨fd, FD, FunD.okL FD S (fun vs H Q E h => ?_) fun cdv cd A outer s H vs Q E hg hr h => ⟨tSeq (tAsg (tCall (spPen2 K) [] E (tCons (tVar 0) tNil)) (L2.gName 1)) (rdS K E m), ?_, ?_⟩⟩
  · obtain ⟨a, ns, rfl, _⟩ := h
    rfl
  · subst hb
    exact pss_cons (h0 cdv A outer s H E hg hr) (hw cdv A outer s H E (lamK_of nm on hq cd) hg hr)
  · exact law_ends hN hc h
end
/-! ### a class of exceptions -/
def clsBody : Stmt → List Stmt
  | .ClassDef _ _ _ b _ _ _ _ _ _ _ => b
  | _ => []
/-- the __init__ in a class's text -/
def initOf (s : Stmt) : Stmt := (clsBody s).getD 0 (.Pass ⟨0, 0, 0, 0⟩)
def textB (scope : Scope) (sf : Str) (ps : List Str) : Bool := decide (scope.kind = .function) && decide (scope.names.lookup ("super" : Str) = some .globalImplicit) && decide (scope.names.lookup ("__class__" : Str) = some .free) &&
  ((sf :: ps).all fun p => decide (scope.names.lookup p = some .local) && !(p == ("__debug__" : Str))) && (scope.names.all fun x => !decide (x.2 = .cell)) && !scope.isCoroutine && !scope.isGenerator && decide ((sf :: ps).Nodup)
theorem text_by {params : Arguments} {scope : Scope} {sf : Str} {ps : List Str} (h : textB scope sf ps = true) (first : ∃ ar, (params.posonlyargs ++ params.args).head? = some ar ∧ ar.arg = sf)
    (bind : ∀ (name qual : Str) (body : List Stmt) (kV doc pm : Value) (an : Option Addr) (cdv ct : Value) (cc : Addr) (us : List Value), us.length = ps.length + 1 → bindArgs (PySem.W.ksFn name qual params body scope .none kV doc pm an cdv ct cc) ⟨us, []⟩ = pure ((sf :: ps).zip us)) : TextK params scope sf ps := by
  unfold textB at h
  simp only [Bool.and_eq_true, Bool.not_eq_true', decide_eq_true_eq, decide_eq_false_iff_not, List.all_eq_true] at h
  obtain ⟨⟨⟨⟨⟨⟨⟨h1, h2⟩, h3⟩, h4⟩, h5⟩, h6⟩, h7⟩, h8⟩ := h
  exact ⟨bind, first, h1, h2, h3, fun p hp => h4 p hp, h5, h6, h7, h8⟩
end DS
end
section
set_option maxRecDepth 100000
set_option maxHeartbeats 1000000
/-! DX14: {} == y; what is heard, of each class. -/
namespace DS
open PySem PySem.Spec PyProof.Rows L2
section
variable {prog : Program} {w : World} {A : Around} {E : Value → Shared → Prop} {s : Shared} {a b : Addr} {oa ob : Obj}
theorem dict_declines {Q : Value → Shared → Prop} (ha : s.heap.get? a = some oa) (ca : oa.cls = .type "dict") (hb : s.heap.get? b = some ob) (cb : ob.cls = .type "tuple") (q : Q .notImplemented s) : wpAny (model prog w) A (call (.builtin "dict.__eq__") [.ref a, .ref b]) Q E s := by
  have ta : s.TypeIs (.ref a) "dict" := ⟨_, ha, ca⟩
  have tb : s.TypeIs (.ref b) "tuple" := ⟨_, hb, cb⟩
  refine wpAny_call_entry PySem.F.slot_dict_eq ta PySem.F.entry_dict_eq ?_ (PySem.F.args_dict_eq_2 _ _)
  change wpAny _ _ (Builtin.Dict.dictSlotArgs "__eq__" ⟨[.ref a, .ref b], []⟩ >>= _) _ _ s
  apply wpAny_bind
  unfold Builtin.Dict.dictSlotArgs
  refine wpAny_bind (wpAny_notOrdered_dict ta ?_)
  change wpAny _ _ (pure (Value.ref a, Value.ref b)) _ _ s
  apply wpAny_pure
  refine wpAny_bind (wpAny_isInstance (T := "tuple") (b := false) tb (by kernel_rfl) ?_)
  simp only [Bool.not_false, if_true]
  exact wpAny_bind (wpAny_rule (wpAny_bind (wpAny_pure (wpAny_pure ⟨_, rfl, q⟩))))
theorem tup_declines (l b : Addr) (items : Array Value) (n : Nat) (dd : Option Addr) (sl : Array (Option Value)) (ob : Obj) (cb : ob.cls = .type "dict") :
    Meets (Builtin.«tuple.__eq__» ⟨[.ref l, .ref b], []⟩) (fun _ R s => s.heap.get? l = some { cls := .type "tuple", dict := dd, data := .seq items n, slots := sl } ∧ s.heap.get? b = some ob ∧ R (.ok (.ret .notImplemented)) s) :=
  .of_wp fun prog w A R s h => by
    obtain ⟨hp, g, d, tk, os⟩ := s
    obtain ⟨hl, hb, h⟩ := h
    obtain ⟨oc, od, dt, osl⟩ := ob
    dsimp only at cb
    subst cb
    have f1 := PySem.F.sub_dict_tuple
    wp_walk using wpAny_loadPart' hl, wpAny_loadPart' hb
    exact ⟨_, rfl, h⟩
theorem dict_tuple_eq {Q : Value → Shared → Prop} {items : Array Value} (ha : s.heap.get? a = some oa) (ca : oa.cls = .type "dict") (hb : s.heap.IsTuple b items) (hu : A.units < cLine) (q : Q (.bool false) s) : wpAny (model prog w) A (richCompare .Eq (.ref a) (.ref b)) Q E s := by
  obtain ⟨⟨c2, d2, dt2, s2⟩, h2, e2, n2, e3⟩ := hb
  dsimp only at e2 e3
  subst e2 e3
  have ne : a ≠ b := fun z => by
    rw [z, h2] at ha
    cases ha
    exact absurd ca (by simp)
  refine SeqAt.rc_eq_decline_or (k := false) ⟨_, ha, ca⟩ ⟨_, h2, rfl⟩ (by decide) PySem.F.sub_tuple_dict PySem.F.slot_dict_eq PySem.F.slot_tuple_eq_refl (fun _ hq => dict_declines ha ca h2 rfl hq)
    (fun _ hq => call_meets PySem.F.slot_tuple_eq_refl ⟨_, h2, rfl⟩ PySem.F.entry_tuple_eq (PySem.F.args_tuple_eq_2 _ _) (tup_declines b a items n2 d2 s2 oa ca) ⟨h2, ha, hq⟩) (fun _ hq => wpAny_isSame_ref_other ne ha h2 (by rw [ca]; simp) hq) (.inr hu) q
end
/-! ### as data -/
def gEqE (x y : D) (P : Bool × D → Prop) : Prop := match x, y with
  | .dk _ _, .tup _ => P (false, .bl false)
  | x, y => gEq x y P
def rEqE (K : KF) : R2 := fun x y H Q => rEqD K x y H Q ∨ ∃ (a b : Addr) (kvs : List (Key × V)) (us : List V), x = .ref a ∧ y = .ref b ∧ H a = some (.dK kvs) ∧ SqT K H b us ∧ Q (.bl false) H
section
variable {X : Cx}
theorem op_eqE (hu : X.A.units + 64 < cLine) : OpR X (compareOp .Eq) (rEqE X.K) := by
  intro pins s σ H x y v u Q I rx ry h
  rcases h with h | ⟨a, b, kvs, us, rfl, rfl, e1, e2, q⟩
  · exact op_eqD hu pins s σ H x y v u Q I rx ry h
  · obtain rfl : v = Value.ref a := rx
    obtain rfl : u = Value.ref b := ry
    obtain ⟨_, _, vs, kv, o, es, ep, h1, h2, h3, h4⟩ := (show ObjOk X.prog X.w H s.heap a (.dK kvs) from I.hok a _ e1)
    obtain ⟨its, rv, tu, _⟩ := I.tuple e2
    exact dict_tuple_eq h1 h2.1 tu (by omega) ⟨.bl false, H, I, rfl, q⟩
theorem os_eqE : OpS X (rEqE X.K) gEqE := by
  intro G F δ σ H v u x y P Q eK I hx hy g k
  unfold gEqE at g
  split at g
  · rename_i ks xs ys
    obtain ⟨a, kvs, rfl, h1, _⟩ := hx
    cases (show Rep G.K G.pa F H u (.tup ys) from hy) with
    | tup t1 t2 => exact .inr ⟨a, _, _, _, rfl, rfl, h1, by rw [← eK]; exact t1.sq, kont_flat I k g (.bl _)⟩
  · exact .inl (os_eq G F δ σ H v u x y P Q eK I hx hy g k)
end
end DS
end
section
set_option maxRecDepth 100000
set_option maxHeartbeats 1000000
/-! DX15: methods of tuples: t.index(i), t a tuple of whole numbers. -/
namespace DS
open PySem PySem.Spec PyProof.Rows L2
section
variable {X : Cx}
def tBMU (r : V → List V → Hp → VK → Prop) (to : TE) (t : TA) : TE := fun σ H Q => to σ H fun x H1 => (∃ (p : Addr) (ob : Obj) (ys : List V), x = .ref p ∧ H1 p = some (.frz ob (.tup ys)) ∧ ob.dict = none) ∧ t σ H1 fun xs H2 => r x xs H2 Q
theorem pe_bmU {o e : Expr} {es : List Expr} {to : TE} {t : TA} {name : Str} {apos cpos : Pos} {id : String} {r : V → List V → Hp → VK → Prop} (slot : Slot "tuple" name id) (hty : typeOf (.builtin id) = pure (.type "method_descriptor")) (hm : MtR X id r) (ho : PE X o to) (ha : PA X (e :: es) t)
    (hbase : attributeBase o name X.env (eval o X.env) = eval o X.env := by rfl)
    (hfew : ((backTo cpos (starEach (e :: es) X.env)).all (fun x => !x.1) && (backToKw cpos (keywordEach [] X.env)).all (fun x => x.1.isSome) && decide ((e :: es).length + ([] : List Keyword).length + (if ([] : List Keyword).isEmpty then 0 else 1) < 30)) = true := by rfl)
    (hline : (apos.endLine == cpos.line) = true := by rfl) (hs : starEach (e :: es) X.env = (false, eval e X.env) :: starEach es X.env := by rfl) (hplain : (backTo cpos (starEach es X.env)).any (·.1) = false := by rfl) :
    PE X (.Call (.Attribute o name apos) (e :: es) [] cpos) (tBMU r to t) := by
  refine ⟨fun pins s σ H Q I h => ?_⟩
  apply wpAny_Call_method_late hbase hfew hline rfl
  refine thn (ho.run pins s σ H _ I h) fun v s1 got => ?_
  obtain ⟨x, H1, I1, r1, ⟨p, ob, ys, rfl, at_, nd⟩, q1⟩ := got
  obtain rfl : v = Value.ref p := r1
  obtain ⟨there, _, its, _, ⟨o2, e2, c2, _⟩⟩ := (show ObjOk X.prog X.w H1 s1.heap p (.frz ob (.tup ys)) from I1.hok p _ at_)
  rw [there] at e2
  cases e2
  refine ⟨"tuple", id, PySem.F.plainAttrs_tuple, slot, hty, ⟨ob, there, c2⟩, fun a z => ⟨ob, by cases z; exact there, nd⟩, ?_⟩
  have args := ha.run cpos pins s1 σ H1 _ I1 q1
  rw [hs] at args ⊢
  refine Calls.callWith_builtin (by show (false || (backTo cpos (starEach es X.env)).any (·.1)) = false; rw [hplain]; rfl) (Calls.evalArgs_plain ?_)
  refine thn args fun us s2 got2 => ?_
  obtain ⟨vs, H2, I2, r2, q2⟩ := got2
  exact hm pins s2 σ H2 (.ref p) vs (.ref p) us Q I2 rfl r2 q2
def rIdxT (K : KF) : V → List V → Hp → VK → Prop := fun x xs H Q => ∃ (p : Addr) (ys : List Int) (z : Int), x = .ref p ∧ xs = [.int z] ∧ SqT K H p (ys.map V.int) ∧ z ∈ ys ∧ Q (.int (ys.idxOf z : Nat)) H
theorem mt_tupIdx : MtR X "tuple.index" (rIdxT X.K) := by
  intro pins s σ H x xs v us Q I rx rs h
  obtain ⟨p, ys, z, rfl, rfl, sq, mem, q⟩ := h
  obtain rfl : v = Value.ref p := rx
  obtain ⟨u, rfl, t, rfl⟩ := vals1 rs
  obtain ⟨its, r, tu, _⟩ := I.tuple sq
  have hl : its.length = ys.length := by rw [← r.length, List.length_map]
  refine SeqAt.call_tuple_index (ks := ys) (k := z) tu ⟨hl, fun j h1 h2 => ?_⟩ mem ⟨.int _, H, I.tok _, ⟨_, rfl⟩, q⟩
  obtain ⟨w, hw, rw'⟩ := r.get (i := j) (x := .int ys[j]) (by simp [h2])
  obtain ⟨t', ew⟩ := rw'
  have e := (List.getElem?_eq_some_iff.mp hw).2
  rw [e, ew]
  have := SeqAt.EqAt.int_int (A := X.A.in1) (s := s) ys[j] t' z t
  exact this
end
def gIndexT : D → List D → (Bool × D → Prop) → Prop
  | .tup xs, [.int z], P => match intsD xs with
    | some ys => z ∈ ys ∧ P (false, .int (ys.idxOf z : Nat))
    | none => False
  | _, _, _ => False
def isTupD : D → Prop
  | .tup _ => True
  | _ => False
def fMrU (g : D → List D → (Bool × D → Prop) → Prop) (fo : FX Hd) (fa : FX (List Hd)) : FX (Bool × D) := fun Ed δ Q => fo Ed δ fun h δ1 => (with1 h δ1 fun d => isTupD d) ∧ fa Ed δ1 fun hs δ2 => with1 h δ2 fun d => withs δ2 hs fun ds => g d ds fun r => Q r δ2
section
variable {X : Cx} {E : XK}
theorem ms_tupIdx : MrS X "tuple" (rIdxT X.K) gIndexT := by
  intro G F δ σ H v vs x xs P Q eK I hx hv g k
  unfold gIndexT at g
  split at g
  · rename_i zs z
    split at g
    · rename_i ys e
      obtain ⟨u, rfl, h1⟩ := vals1D hv
      cases h1
      cases (show Rep G.K G.pa F H v (.tup zs) from hx) with
      | @tup a ws ds h2 h3 =>
        rw [intsD_map e] at h3
        rw [h3.ints_of] at h2
        exact ⟨a, ys, z, rfl, rfl, by rw [← eK]; exact h2.sq, g.1, kont_flat I k g.2 (.int _)⟩
    · exact g.elim
  · exact g.elim
theorem do_mrU {o e : Expr} {es : List Expr} {name : Str} {apos cpos : Pos} {id : String} {r : V → List V → Hp → VK → Prop} {g : D → List D → (Bool × D → Prop) → Prop} {fo : FX Hd} {fa : FX (List Hd)} (slot : Slot "tuple" name id) (hty : typeOf (.builtin id) = pure (.type "method_descriptor")) (hm : MtR X id r) (hs : MrS X "tuple" r g) (ho : DH X E o fo) (ha : DHs X E (e :: es) fa)
    (hbase : attributeBase o name X.env (eval o X.env) = eval o X.env := by rfl)
    (hfew : ((backTo cpos (starEach (e :: es) X.env)).all (fun x => !x.1) && (backToKw cpos (keywordEach [] X.env)).all (fun x => x.1.isSome) && decide ((e :: es).length + ([] : List Keyword).length + (if ([] : List Keyword).isEmpty then 0 else 1) < 30)) = true := by rfl)
    (hline : (apos.endLine == cpos.line) = true := by rfl) (h1 : starEach (e :: es) X.env = (false, eval e X.env) :: starEach es X.env := by rfl) (h2 : (backTo cpos (starEach es X.env)).any (·.1) = false := by rfl) :
    DO X E (.Call (.Attribute o name apos) (e :: es) [] cpos) (fMrU g fo fa) := PE.imp (pe_bmU slot hty hm ho ha hbase hfew hline h1 h2) fun σ H Q ⟨G, F, δ, Qd, Ed, eK, I, hf, hx, k⟩ =>
  ⟨G, F, δ, _, Ed, eK, I, hf, hx, fun x δ1 F1 H1 v q1 I1 s1 r1 => by
    obtain ⟨d0, w1, w2⟩ := with1_at I1 r1 q1.1
    refine ⟨?_, G, F1, δ1, _, Ed, eK, I1, q1.2, hx, fun ys δ2 F2 H2 vs q2 I2 s2 r2 => ?_⟩
    · cases d0 with
      | tup ds =>
        cases (show Rep G.K G.pa F1 H1 v (.tup ds) from w1) with
        | tup a b => obtain ⟨_, ob, e1, e2⟩ := a; exact ⟨_, ob, _, rfl, e1, e2⟩
      | _ => exact w2.elim
    · obtain ⟨d, w3, w4⟩ := with1_at I2 (HdOk.ext s2.ext r1) q2
      obtain ⟨ds, w5, w6⟩ := withs_ok I2 r2 w4
      exact hs G F2 δ2 σ H2 v vs d ds _ Q eK I2 w3 w5 w6 fun z F' H' u p I' s' o' => k z δ2 F' H' u p I' ((s1.trans s2).trans s') ⟨o'.1, fun w a ha => Classical.byContradiction fun n => (s1.trans s2).trk a n (o'.2 w a ha)⟩⟩
end
end DS
end
section
set_option maxRecDepth 100000
set_option maxHeartbeats 1000000
namespace L01
open PySem PySem.Spec PyProof.Rows L2 DS
local macro_rules
  | `(tactic| simp_all only [$ts,*]) => `(tactic| simp only [sRet, sIf, sSeq, sSet, sPar, sDrop, sNext, sNever, sAsg, sAsgW, sFor, fOp, fCall, fG, fH, fO, fUn, fChain, DS.fIf, tOp2, fTrue, fNot, fAnd, fOr, DS.gAnd, DS.gOr, DS.gNot, fTup, fLst, aCons, aNil, fOwn, fOwnK, fSeq, gC, DS.gName, hName, with1, with2, withs, Hd.get, startD, Dst.put, twSub, twSeq, twsCons, twsNil, twTg, tgName, tgSeqN, tgsCons, tgsNil, withO, withL, ownL, fYes, gRev, fRg1, fRg2, fLstRg, fTupRg, fR1, fR2,
  gAdd, DS.gSub, gMul, gMod, gNeg, gLt, gLe, gGt, gGe, gEq, gNe, gIx, gLen, gLst1, gTup1, gInt1, gAbs, gIsi, tyOf, tysOf, isT, gAppend, gExtend, gPop, gPopAt, fMt, fLc, fLc2, restore, wipeD, atI_0, atI_1,
  List.map_cons, List.map_nil, List.length_cons, List.length_nil, List.replicate_succ, List.replicate_zero, List.getElem?_cons_zero, List.getElem?_cons_succ, List.getElem?_nil, List.set_cons_zero, List.set_cons_succ, List.set_nil, List.nil_append, List.cons_append, List.append_nil, Nat.reduceAdd, Nat.reduceSub, $ts,*])
def top (i : Nat) : Stmt := PySem.Challenge.pw_leavesturned_k01_turnings_and_their_roun.main.body.getD i (.Pass ⟨0, 0, 0, 0⟩)
abbrev s_is_integer : Stmt := top 1
abbrev s_is_within : Stmt := top 2
abbrev s_is_listed : Stmt := top 3
abbrev s_is_row : Stmt := top 4
abbrev s_still_of : Stmt := top 24
abbrev s_then : Stmt := top 25
abbrev s_back_of : Stmt := top 26
abbrev s_rounds_of : Stmt := top 27
abbrev s_is_turning : Stmt := top 28
abbrev s_need_many : Stmt := top 29
abbrev s_need_turning : Stmt := top 30
abbrev s_length_of : Stmt := top 31
abbrev s_need_pair : Stmt := top 32
abbrev s_still : Stmt := top 33
abbrev s_product : Stmt := top 34
abbrev s_backward : Stmt := top 35
abbrev s_rounds : Stmt := top 36
abbrev s__law_pen : Stmt := top 38
abbrev s__law_draw : Stmt := top 39
abbrev s__law_pick : Stmt := top 40
abbrev s__law_mixed : Stmt := top 41
abbrev s__law_back : Stmt := top 42
abbrev s__law_heard : Stmt := top 43
abbrev s__law_rounds : Stmt := top 44
abbrev s_law : Stmt := top 45
abbrev s_BadTurning : Stmt := initOf (top 8)
abbrev s_BadNumber : Stmt := initOf (top 11)
/-- what is known of the module -/
structure Tk (P : Program) (base : Heap) (K : KF) (mg : Str → Option Value) (w : World) : Prop where
  d_is_integer : ∃ fd, FunD K "is_integer" "is_integer" (defArgs s_is_integer) (defBody s_is_integer) (defScope s_is_integer) [] [] (He.ga K "is_integer") fd
  g_is_integer : mg "is_integer" = some (.ref (He.ga K "is_integer"))
  d_is_within : ∃ fd, FunD K "is_within" "is_within" (defArgs s_is_within) (defBody s_is_within) (defScope s_is_within) [] [] (He.ga K "is_within") fd
  g_is_within : mg "is_within" = some (.ref (He.ga K "is_within"))
  d_is_listed : ∃ fd, FunD K "is_listed" "is_listed" (defArgs s_is_listed) (defBody s_is_listed) (defScope s_is_listed) [] [] (He.ga K "is_listed") fd
  g_is_listed : mg "is_listed" = some (.ref (He.ga K "is_listed"))
  d_is_row : ∃ fd, FunD K "is_row" "is_row" (defArgs s_is_row) (defBody s_is_row) (defScope s_is_row) [] [] (He.ga K "is_row") fd
  g_is_row : mg "is_row" = some (.ref (He.ga K "is_row"))
  d_still_of : ∃ fd, FunD K "still_of" "still_of" (defArgs s_still_of) (defBody s_still_of) (defScope s_still_of) [] [] (He.ga K "still_of") fd
  g_still_of : mg "still_of" = some (.ref (He.ga K "still_of"))
  d_then : ∃ fd, FunD K "then" "then" (defArgs s_then) (defBody s_then) (defScope s_then) [] [] (He.ga K "then") fd
  g_then : mg "then" = some (.ref (He.ga K "then"))
  d_back_of : ∃ fd, FunD K "back_of" "back_of" (defArgs s_back_of) (defBody s_back_of) (defScope s_back_of) [] [] (He.ga K "back_of") fd
  g_back_of : mg "back_of" = some (.ref (He.ga K "back_of"))
  d_rounds_of : ∃ fd, FunD K "rounds_of" "rounds_of" (defArgs s_rounds_of) (defBody s_rounds_of) (defScope s_rounds_of) [] [] (He.ga K "rounds_of") fd
  g_rounds_of : mg "rounds_of" = some (.ref (He.ga K "rounds_of"))
  d_is_turning : ∃ fd, FunD K "is_turning" "is_turning" (defArgs s_is_turning) (defBody s_is_turning) (defScope s_is_turning) [] [] (He.ga K "is_turning") fd
  g_is_turning : mg "is_turning" = some (.ref (He.ga K "is_turning"))
  d_need_many : ∃ fd, FunD K "need_many" "need_many" (defArgs s_need_many) (defBody s_need_many) (defScope s_need_many) [.str "many"] [] (He.ga K "need_many") fd
  g_need_many : mg "need_many" = some (.ref (He.ga K "need_many"))
  d_need_turning : ∃ fd, FunD K "need_turning" "need_turning" (defArgs s_need_turning) (defBody s_need_turning) (defScope s_need_turning) [] [] (He.ga K "need_turning") fd
  g_need_turning : mg "need_turning" = some (.ref (He.ga K "need_turning"))
  d_length_of : ∃ fd, FunD K "length_of" "length_of" (defArgs s_length_of) (defBody s_length_of) (defScope s_length_of) [] [] (He.ga K "length_of") fd
  g_length_of : mg "length_of" = some (.ref (He.ga K "length_of"))
  d_need_pair : ∃ fd, FunD K "need_pair" "need_pair" (defArgs s_need_pair) (defBody s_need_pair) (defScope s_need_pair) [] [] (He.ga K "need_pair") fd
  g_need_pair : mg "need_pair" = some (.ref (He.ga K "need_pair"))
  d_still : ∃ fd, FunD K "still" "still" (defArgs s_still) (defBody s_still) (defScope s_still) [] [] (He.ga K "still") fd
  g_still : mg "still" = some (.ref (He.ga K "still"))
  d_product : ∃ fd, FunD K "product" "product" (defArgs s_product) (defBody s_product) (defScope s_product) [] [] (He.ga K "product") fd
  g_product : mg "product" = some (.ref (He.ga K "product"))
  d_backward : ∃ fd, FunD K "backward" "backward" (defArgs s_backward) (defBody s_backward) (defScope s_backward) [] [] (He.ga K "backward") fd
  g_backward : mg "backward" = some (.ref (He.ga K "backward"))
  d_rounds : ∃ fd, FunD K "rounds" "rounds" (defArgs s_rounds) (defBody s_rounds) (defScope s_rounds) [] [] (He.ga K "rounds") fd
  g_rounds : mg "rounds" = some (.ref (He.ga K "rounds"))
  d__law_pen : ∃ fd, FunD K "_law_pen" "_law_pen" (defArgs s__law_pen) (defBody s__law_pen) (defScope s__law_pen) [] [] (He.ga K "_law_pen") fd
  g__law_pen : mg "_law_pen" = some (.ref (He.ga K "_law_pen"))
  d__law_draw : ∃ fd, FunD K "_law_draw" "_law_draw" (defArgs s__law_draw) (defBody s__law_draw) (defScope s__law_draw) [] [] (He.ga K "_law_draw") fd
  g__law_draw : mg "_law_draw" = some (.ref (He.ga K "_law_draw"))
  d__law_pick : ∃ fd, FunD K "_law_pick" "_law_pick" (defArgs s__law_pick) (defBody s__law_pick) (defScope s__law_pick) [] [] (He.ga K "_law_pick") fd
  g__law_pick : mg "_law_pick" = some (.ref (He.ga K "_law_pick"))
  d__law_mixed : ∃ fd, FunD K "_law_mixed" "_law_mixed" (defArgs s__law_mixed) (defBody s__law_mixed) (defScope s__law_mixed) [] [] (He.ga K "_law_mixed") fd
  g__law_mixed : mg "_law_mixed" = some (.ref (He.ga K "_law_mixed"))
  d__law_back : ∃ fd, FunD K "_law_back" "_law_back" (defArgs s__law_back) (defBody s__law_back) (defScope s__law_back) [] [] (He.ga K "_law_back") fd
  g__law_back : mg "_law_back" = some (.ref (He.ga K "_law_back"))
  d__law_heard : ∃ fd, FunD K "_law_heard" "_law_heard" (defArgs s__law_heard) (defBody s__law_heard) (defScope s__law_heard) [] [] (He.ga K "_law_heard") fd
  g__law_heard : mg "_law_heard" = some (.ref (He.ga K "_law_heard"))
  d__law_rounds : ∃ fd, FunD K "_law_rounds" "_law_rounds" (defArgs s__law_rounds) (defBody s__law_rounds) (defScope s__law_rounds) [] [] (He.ga K "_law_rounds") fd
  g__law_rounds : mg "_law_rounds" = some (.ref (He.ga K "_law_rounds"))
  d_law : ∃ fd, FunD K "law" "law" (defArgs s_law) (defBody s_law) (defScope s_law) [] [] (He.ga K "law") fd
  g_law : mg "law" = some (.ref (He.ga K "law"))
  n_abs : mg "abs" = none
  n_all : mg "all" = none
  n_bool : mg "bool" = none
  n_enumerate : mg "enumerate" = none
  n_int : mg "int" = none
  n_isinstance : mg "isinstance" = none
  n_len : mg "len" = none
  n_list : mg "list" = none
  n_range : mg "range" = none
  n_repr : mg "repr" = none
  n_sorted : mg "sorted" = none
  n_tuple : mg "tuple" = none
  c_MOST_SPOTS : ∃ t, mg "MOST_SPOTS" = some (.int 20 t)
  g_BadLot : mg "BadLot" = some (.ref (He.ga K "BadLot"))
  g_BadTurning : mg "BadTurning" = some (.ref (He.ga K "BadTurning"))
  g_BadNest : mg "BadNest" = some (.ref (He.ga K "BadNest"))
  g_BadLabels : mg "BadLabels" = some (.ref (He.ga K "BadLabels"))
  g_BadNumber : mg "BadNumber" = some (.ref (He.ga K "BadNumber"))
  g_BadValue : mg "BadValue" = some (.ref (He.ga K "BadValue"))
  g_BadWeb : mg "BadWeb" = some (.ref (He.ga K "BadWeb"))
  g_BadPuzzle : mg "BadPuzzle" = some (.ref (He.ga K "BadPuzzle"))
  g_BadPaper : mg "BadPaper" = some (.ref (He.ga K "BadPaper"))
  g_Misfit : mg "Misfit" = some (.ref (He.ga K "Misfit"))
  g_Nothing : mg "Nothing" = some (.ref (He.ga K "Nothing"))
  g_BadCommand : mg "BadCommand" = some (.ref (He.ga K "BadCommand"))
  g_NoName : mg "NoName" = some (.ref (He.ga K "NoName"))
  g_BadText : mg "BadText" = some (.ref (He.ga K "BadText"))
  g_TooMany : mg "TooMany" = some (.ref (He.ga K "TooMany"))
  g_LeafError : mg "LeafError" = some (.ref (He.ga K "LeafError"))
  x_BadTurning : XCls P w K (He.ga K "BadTurning") ["part"]
  x_BadNumber : XCls P w K (He.ga K "BadNumber") ["part"]
  xs : ExcS K ["BadTurning", "BadNumber"] ["BadLot", "BadTurning", "BadNest", "BadLabels", "BadNumber", "BadValue", "BadWeb", "BadPuzzle", "BadPaper", "Misfit", "Nothing", "BadCommand", "NoName", "BadText", "TooMany"]
  na_line : NoAt K ["BadTurning", "BadNumber"] "line"
  na_most : NoAt K ["BadTurning", "BadNumber"] "most"
  na_name : NoAt K ["BadTurning", "BadNumber"] "name"
  na_part : NoAt K ["BadTurning", "BadNumber"] "part"
  na_what : NoAt K ["BadTurning", "BadNumber"] "what"
  na_word : NoAt K ["BadTurning", "BadNumber"] "word"
  hex : ∀ c ∈ (["BadTurning", "BadNumber"] : List Str), PySem.W.exmOne K (.ref (He.ga K c)) (.ref (He.ga K "LeafError")) = some true
  tabA : TabA K base mg
  nm : namedB K ["law"] = true
  on : oneB K = true
def bk_backward_one {α : Type} (us ws : List α) : List α := match us, ws with | [], [a] => [a] | _, _ => []
theorem bv_backward_one {vs : List V} {us : List Value} {zs : List V} {ws : List Value} (r : Vals vs us) (t0 : Vals zs ws) : Vals (bk_backward_one vs zs) (bk_backward_one us ws) := by cases r with | cons _ _ => exact .nil | nil => (cases t0 with | nil => exact .nil | cons r0 t1 => (cases t1 with | nil => exact (.cons r0 .nil) | cons _ _ => exact .nil))
theorem bd_backward_one {K : KF} {pa : Option Addr} {F : FS} {H : Hp} {vs : List V} {ds : List D} {zs : List V} {es : List D} (r : RepAll K pa F H vs ds) (t0 : RepAll K pa F H zs es) : RepAll K pa F H (bk_backward_one vs zs) (bk_backward_one ds es) := by cases r with | cons _ _ => exact .nil | nil => (cases t0 with | nil => exact .nil | cons r0 t1 => (cases t1 with | nil => exact (.cons r0 .nil) | cons _ _ => exact .nil))
def bk_product_other_one {α : Type} (us ws : List α) : List α := match us, ws with | [], [a, b] => [b, a] | _, _ => []
theorem bv_product_other_one {vs : List V} {us : List Value} {zs : List V} {ws : List Value} (r : Vals vs us) (t0 : Vals zs ws) : Vals (bk_product_other_one vs zs) (bk_product_other_one us ws) := by cases r with | cons _ _ => exact .nil | nil => (cases t0 with | nil => exact .nil | cons r0 t1 => (cases t1 with | nil => exact .nil | cons r1 t2 => (cases t2 with | nil => exact (.cons r1 (.cons r0 .nil)) | cons _ _ => exact .nil)))
theorem bd_product_other_one {K : KF} {pa : Option Addr} {F : FS} {H : Hp} {vs : List V} {ds : List D} {zs : List V} {es : List D} (r : RepAll K pa F H vs ds) (t0 : RepAll K pa F H zs es) : RepAll K pa F H (bk_product_other_one vs zs) (bk_product_other_one ds es) := by cases r with | cons _ _ => exact .nil | nil => (cases t0 with | nil => exact .nil | cons r0 t1 => (cases t1 with | nil => exact .nil | cons r1 t2 => (cases t2 with | nil => exact (.cons r1 (.cons r0 .nil)) | cons _ _ => exact .nil)))
def bk_rounds_one {α : Type} (us ws : List α) : List α := match us, ws with | [], [a] => [a] | _, _ => []
theorem bv_rounds_one {vs : List V} {us : List Value} {zs : List V} {ws : List Value} (r : Vals vs us) (t0 : Vals zs ws) : Vals (bk_rounds_one vs zs) (bk_rounds_one us ws) := by cases r with | cons _ _ => exact .nil | nil => (cases t0 with | nil => exact .nil | cons r0 t1 => (cases t1 with | nil => exact (.cons r0 .nil) | cons _ _ => exact .nil))
theorem bd_rounds_one {K : KF} {pa : Option Addr} {F : FS} {H : Hp} {vs : List V} {ds : List D} {zs : List V} {es : List D} (r : RepAll K pa F H vs ds) (t0 : RepAll K pa F H zs es) : RepAll K pa F H (bk_rounds_one vs zs) (bk_rounds_one ds es) := by cases r with | cons _ _ => exact .nil | nil => (cases t0 with | nil => exact .nil | cons r0 t1 => (cases t1 with | nil => exact (.cons r0 .nil) | cons _ _ => exact .nil))
def bk_still_many {α : Type} (us ws : List α) : List α := match us, ws with | [], [a] => [a] | _, _ => []
theorem bv_still_many {vs : List V} {us : List Value} {zs : List V} {ws : List Value} (r : Vals vs us) (t0 : Vals zs ws) : Vals (bk_still_many vs zs) (bk_still_many us ws) := by cases r with | cons _ _ => exact .nil | nil => (cases t0 with | nil => exact .nil | cons r0 t1 => (cases t1 with | nil => exact (.cons r0 .nil) | cons _ _ => exact .nil))
theorem bd_still_many {K : KF} {pa : Option Addr} {F : FS} {H : Hp} {vs : List V} {ds : List D} {zs : List V} {es : List D} (r : RepAll K pa F H vs ds) (t0 : RepAll K pa F H zs es) : RepAll K pa F H (bk_still_many vs zs) (bk_still_many ds es) := by cases r with | cons _ _ => exact .nil | nil => (cases t0 with | nil => exact .nil | cons r0 t1 => (cases t1 with | nil => exact (.cons r0 .nil) | cons _ _ => exact .nil))
section
variable {P : Program} {w : World} {K : KF} {mg : Str → Option Value} {base : Heap} {k : Nat}
/-! is_integer -/
abbrev N_is_integer : List Str := ["value"]
theorem sc_is_integer : FnScope N_is_integer ["value"] (defScope s_is_integer) := ⟨rfl, rfl, rfl, by decide +kernel, rfl, by decide +kernel, by decide +kernel⟩
def m_is_integer : FSt := (sRet (gAnd (fG (fCall gIsi (aCons (hName 0) (aCons (fH (gC (.ty .int))) aNil)))) (gNot (fG (fCall gIsi (aCons (hName 0) (aCons (fH (gC (.ty .bl))) aNil)))))))
theorem w_is_integer  (T : Tk P base K mg w) (cdv : Value) (A : Around) (outer : List Env) (s : Shared) (H : Hp) (E : XK) (hg : Bare A) (hr : Room k (A.deeper (envOfC "is_integer" (defScope s_is_integer) s.heap.objs.size (He.ga K "is_integer") cdv))) :
    DSs (cxOf (L2N.CX P w) P w K mg base N_is_integer "is_integer" (defScope s_is_integer) (He.ga K "is_integer") cdv A outer s H E) E (defBody s_is_integer) (m_is_integer) := by
  have hu5 := room5 hr
  have hu4 := hr.units
  have hu1 := room1 hr
  have nd := (sc_is_integer).nd
  exact (ds_one (ds_ret (dg_and (DO.g (do_callB c_isi cs_isi (by rfl) T.n_isinstance bb_isinstance (dhs_cons (dh_name (pv 0)) (dhs_cons (DG.h (dg_ty (by rfl) T.n_int bt_int)) dhs_nil)))) (dg_one (dg_not (DO.g (do_callB c_isi cs_isi (by rfl) T.n_isinstance bb_isinstance (dhs_cons (dh_name (pv 0)) (dhs_cons (DG.h (dg_ty (by rfl) T.n_bool bt_bool)) dhs_nil)))))))))
theorem ok_is_integer  (T : Tk P base K mg w) {C : DC} (hl : ∀ ds n Q Ed, C ds n Q Ed → ds.length = 1) (hc : ∀ ds n Q Ed, C ds n Q Ed → m_is_integer Ed ⟨fun δ => Q .non δ.n, Q, fun _ => False, fun _ => False⟩ (startD N_is_integer ds n)) :
    OkF P w K mg base "is_integer" (defArgs s_is_integer) (defBody s_is_integer) (defScope s_is_integer) [] ["value"] (k + 1) C := okF_of T.d_is_integer sc_is_integer hl (w_is_integer T) hc
/-! is_within -/
abbrev N_is_within : List Str := ["value", "least", "most"]
theorem sc_is_within : FnScope N_is_within ["value", "least", "most"] (defScope s_is_within) := ⟨rfl, rfl, rfl, by decide +kernel, rfl, by decide +kernel, by decide +kernel⟩
def m_is_within (C_is_integer : DC) : FSt := (sRet (gAnd (fOwn C_is_integer [] (aCons (DS.gName 0) aNil)) (fChain gLe gLe (hName 1) (hName 0) (hName 2))))
theorem w_is_within {C_is_integer : DC} (T : Tk P base K mg w) (h_is_integer : OkF P w K mg base "is_integer" (defArgs s_is_integer) (defBody s_is_integer) (defScope s_is_integer) [] ["value"] k C_is_integer) (cdv : Value) (A : Around) (outer : List Env) (s : Shared) (H : Hp) (E : XK) (hg : Bare A) (hr : Room k (A.deeper (envOfC "is_within" (defScope s_is_within) s.heap.objs.size (He.ga K "is_within") cdv))) :
    DSs (cxOf (L2N.CX P w) P w K mg base N_is_within "is_within" (defScope s_is_within) (He.ga K "is_within") cdv A outer s H E) E (defBody s_is_within) (m_is_within C_is_integer) := by
  have hu5 := room5 hr
  have hu4 := hr.units
  have hu1 := room1 hr
  have nd := (sc_is_within).nd
  exact (ds_one (ds_ret (dg_and (dg_f h_is_integer hg hr (by rfl) T.g_is_integer (fun _ _ _ _ _ _ us hl => match us, hl with | [_], _ => rfl) (da_cons (dg_name (pv 0)) da_nil)) (dg_one (dg_chain op_le op_le os_le os_le (dh_name (pv 1)) (dh_name (pv 0)) (dh_name (pv 2)))))))
theorem ok_is_within {C_is_integer : DC} (T : Tk P base K mg w) (h_is_integer : OkF P w K mg base "is_integer" (defArgs s_is_integer) (defBody s_is_integer) (defScope s_is_integer) [] ["value"] k C_is_integer) {C : DC} (hl : ∀ ds n Q Ed, C ds n Q Ed → ds.length = 3) (hc : ∀ ds n Q Ed, C ds n Q Ed → m_is_within C_is_integer Ed ⟨fun δ => Q .non δ.n, Q, fun _ => False, fun _ => False⟩ (startD N_is_within ds n)) :
    OkF P w K mg base "is_within" (defArgs s_is_within) (defBody s_is_within) (defScope s_is_within) [] ["value", "least", "most"] (k + 1) C := okF_of T.d_is_within sc_is_within hl (w_is_within T h_is_integer) hc
/-! is_listed -/
abbrev N_is_listed : List Str := ["value"]
theorem sc_is_listed : FnScope N_is_listed ["value"] (defScope s_is_listed) := ⟨rfl, rfl, rfl, by decide +kernel, rfl, by decide +kernel, by decide +kernel⟩
def m_is_listed : FSt := (sRet (fG (fCall gIsi (aCons (hName 0) (aCons (fH (fG (fTup (aCons (gC (.ty .lst)) (aCons (gC (.ty .tup)) aNil))))) aNil)))))
theorem w_is_listed  (T : Tk P base K mg w) (cdv : Value) (A : Around) (outer : List Env) (s : Shared) (H : Hp) (E : XK) (hg : Bare A) (hr : Room k (A.deeper (envOfC "is_listed" (defScope s_is_listed) s.heap.objs.size (He.ga K "is_listed") cdv))) :
    DSs (cxOf (L2N.CX P w) P w K mg base N_is_listed "is_listed" (defScope s_is_listed) (He.ga K "is_listed") cdv A outer s H E) E (defBody s_is_listed) (m_is_listed) := by
  have hu5 := room5 hr
  have hu4 := hr.units
  have hu1 := room1 hr
  have nd := (sc_is_listed).nd
  exact (ds_one (ds_ret (DO.g (do_callB c_isi cs_isi (by rfl) T.n_isinstance bb_isinstance (dhs_cons (dh_name (pv 0)) (dhs_cons (DG.h (DO.g (do_tup (da_cons (dg_ty (by rfl) T.n_list bt_list) (da_cons (dg_ty (by rfl) T.n_tuple bt_tuple) da_nil))))) dhs_nil))))))
theorem ok_is_listed  (T : Tk P base K mg w) {C : DC} (hl : ∀ ds n Q Ed, C ds n Q Ed → ds.length = 1) (hc : ∀ ds n Q Ed, C ds n Q Ed → m_is_listed Ed ⟨fun δ => Q .non δ.n, Q, fun _ => False, fun _ => False⟩ (startD N_is_listed ds n)) :
    OkF P w K mg base "is_listed" (defArgs s_is_listed) (defBody s_is_listed) (defScope s_is_listed) [] ["value"] (k + 1) C := okF_of T.d_is_listed sc_is_listed hl (w_is_listed T) hc
/-! is_row -/
abbrev N_is_row : List Str := ["value", "many", "one"]
theorem sc_is_row : FnScope N_is_row ["value", "many"] (defScope s_is_row) := ⟨rfl, rfl, rfl, by decide +kernel, rfl, by decide +kernel, by decide +kernel⟩
def m_is_row (C_is_listed : DC) (C_is_integer : DC) : FSt := (sRet (gAnd (fOwn C_is_listed [] (aCons (DS.gName 0) aNil)) (gAnd (fG (fOp gEq (fH (fG (fCall gLen (aCons (hName 0) aNil)))) (hName 1))) (fG (fCall gAll (aCons (fH (fG (fLc (fSeq (DS.gName 0)) (tgName 2) fYes (fOwn C_is_integer [] (aCons (DS.gName 2) aNil)) [2]))) aNil))))))
theorem w_is_row {C_is_listed : DC} {C_is_integer : DC} (T : Tk P base K mg w) (h_is_listed : OkF P w K mg base "is_listed" (defArgs s_is_listed) (defBody s_is_listed) (defScope s_is_listed) [] ["value"] k C_is_listed) (h_is_integer : OkF P w K mg base "is_integer" (defArgs s_is_integer) (defBody s_is_integer) (defScope s_is_integer) [] ["value"] k C_is_integer) (cdv : Value) (A : Around) (outer : List Env) (s : Shared) (H : Hp) (E : XK) (hg : Bare A) (hr : Room k (A.deeper (envOfC "is_row" (defScope s_is_row) s.heap.objs.size (He.ga K "is_row") cdv))) :
    DSs (cxOf (L2N.CX P w) P w K mg base N_is_row "is_row" (defScope s_is_row) (He.ga K "is_row") cdv A outer s H E) E (defBody s_is_row) (m_is_row C_is_listed C_is_integer) := by
  have hu5 := room5 hr
  have hu4 := hr.units
  have hu1 := room1 hr
  have nd := (sc_is_row).nd
  exact (ds_one (ds_ret (dg_and (dg_f h_is_listed hg hr (by rfl) T.g_is_listed (fun _ _ _ _ _ _ us hl => match us, hl with | [_], _ => rfl) (da_cons (dg_name (pv 0)) da_nil)) (dg_and (DO.g (do_cmp (op_eqD hu4) os_eq (DG.h (DO.g (do_callB c_len cs_len (by rfl) T.n_len bb_len (dhs_cons (dh_name (pv 0)) dhs_nil)))) (dh_name (pv 1)) (by rfl))) (dg_one (DO.g (do_callB (cr_all rfl) cs_all (by rfl) T.n_all bb_all (dhs_cons (DG.h (DO.g (do_lc (own := [("one", 2)]) rfl nd (di_seq (dg_name (pv 0))) (blkOk_by (N := N_is_row) (sc := defScope s_is_row) (by decide +kernel)) (fun _ _ _ _ _ => (dtg_name (i := 2) nd rfl (by first | exact Or.inl rfl | exact Or.inr rfl))) (fun _ _ _ _ _ => dts_nil) (fun _ _ _ _ _ => (dg_f h_is_integer hg hr (by rfl) T.g_is_integer (fun _ _ _ _ _ _ us hl => match us, hl with | [_], _ => rfl) (da_cons (dg_name (pv 2)) da_nil)))))) dhs_nil))))))))
theorem ok_is_row {C_is_listed : DC} {C_is_integer : DC} (T : Tk P base K mg w) (h_is_listed : OkF P w K mg base "is_listed" (defArgs s_is_listed) (defBody s_is_listed) (defScope s_is_listed) [] ["value"] k C_is_listed) (h_is_integer : OkF P w K mg base "is_integer" (defArgs s_is_integer) (defBody s_is_integer) (defScope s_is_integer) [] ["value"] k C_is_integer) {C : DC} (hl : ∀ ds n Q Ed, C ds n Q Ed → ds.length = 2) (hc : ∀ ds n Q Ed, C ds n Q Ed → m_is_row C_is_listed C_is_integer Ed ⟨fun δ => Q .non δ.n, Q, fun _ => False, fun _ => False⟩ (startD N_is_row ds n)) :
    OkF P w K mg base "is_row" (defArgs s_is_row) (defBody s_is_row) (defScope s_is_row) [] ["value", "many"] (k + 1) C := okF_of T.d_is_row sc_is_row hl (w_is_row T h_is_listed h_is_integer) hc
/-! still_of -/
abbrev N_still_of : List Str := ["many"]
theorem sc_still_of : FnScope N_still_of ["many"] (defScope s_still_of) := ⟨rfl, rfl, rfl, by decide +kernel, rfl, by decide +kernel, by decide +kernel⟩
def m_still_of : FSt := (sRet (fG (fTupRg (fRg1 (DS.gName 0)))))
theorem w_still_of  (T : Tk P base K mg w) (cdv : Value) (A : Around) (outer : List Env) (s : Shared) (H : Hp) (E : XK) (hg : Bare A) (hr : Room k (A.deeper (envOfC "still_of" (defScope s_still_of) s.heap.objs.size (He.ga K "still_of") cdv))) :
    DSs (cxOf (L2N.CX P w) P w K mg base N_still_of "still_of" (defScope s_still_of) (He.ga K "still_of") cdv A outer s H E) E (defBody s_still_of) (m_still_of) := by
  have hu5 := room5 hr
  have hu4 := hr.units
  have hu1 := room1 hr
  have nd := (sc_still_of).nd
  exact (ds_one (ds_ret (DO.g (do_tupRg rfl (by rfl) T.n_tuple (drg_1 (by rfl) T.n_range (dg_name (pv 0)))))))
theorem ok_still_of  (T : Tk P base K mg w) {C : DC} (hl : ∀ ds n Q Ed, C ds n Q Ed → ds.length = 1) (hc : ∀ ds n Q Ed, C ds n Q Ed → m_still_of Ed ⟨fun δ => Q .non δ.n, Q, fun _ => False, fun _ => False⟩ (startD N_still_of ds n)) :
    OkF P w K mg base "still_of" (defArgs s_still_of) (defBody s_still_of) (defScope s_still_of) [] ["many"] (k + 1) C := okF_of T.d_still_of sc_still_of hl (w_still_of T) hc
/-! then -/
abbrev N_then : List Str := ["one", "other", "spot"]
theorem sc_then : FnScope N_then ["one", "other"] (defScope s_then) := ⟨rfl, rfl, rfl, by decide +kernel, rfl, by decide +kernel, by decide +kernel⟩
def m_then : FSt := (sRet (fG (fCall gTup1 (aCons (fH (fG (fLc (fSeq (DS.gName 0)) (tgName 2) fYes (fG (fOp gIx (hName 1) (hName 2))) [2]))) aNil))))
theorem w_then  (T : Tk P base K mg w) (cdv : Value) (A : Around) (outer : List Env) (s : Shared) (H : Hp) (E : XK) (hg : Bare A) (hr : Room k (A.deeper (envOfC "then" (defScope s_then) s.heap.objs.size (He.ga K "then") cdv))) :
    DSs (cxOf (L2N.CX P w) P w K mg base N_then "then" (defScope s_then) (He.ga K "then") cdv A outer s H E) E (defBody s_then) (m_then) := by
  have hu5 := room5 hr
  have hu4 := hr.units
  have hu1 := room1 hr
  have nd := (sc_then).nd
  exact (ds_one (ds_ret (DO.g (do_callTy call_tupleF cs_tup1 (by rfl) T.n_tuple bt_tuple (dhs_cons (DG.h (DO.g (do_lc (own := [("spot", 2)]) rfl nd (di_seq (dg_name (pv 0))) (blkOk_by (N := N_then) (sc := defScope s_then) (by decide +kernel)) (fun _ _ _ _ _ => (dtg_name (i := 2) nd rfl (by first | exact Or.inl rfl | exact Or.inr rfl))) (fun _ _ _ _ _ => dts_nil) (fun _ _ _ _ _ => (DO.g (do_ix (i_ix hu1) os_ix (dh_name (pv 1)) (dh_name (pv 2)) (fun _ _ => rfl))))))) dhs_nil)))))
theorem ok_then  (T : Tk P base K mg w) {C : DC} (hl : ∀ ds n Q Ed, C ds n Q Ed → ds.length = 2) (hc : ∀ ds n Q Ed, C ds n Q Ed → m_then Ed ⟨fun δ => Q .non δ.n, Q, fun _ => False, fun _ => False⟩ (startD N_then ds n)) :
    OkF P w K mg base "then" (defArgs s_then) (defBody s_then) (defScope s_then) [] ["one", "other"] (k + 1) C := okF_of T.d_then sc_then hl (w_then T) hc
/-! back_of -/
abbrev N_back_of : List Str := ["one", "found", "spot", "goal"]
theorem sc_back_of : FnScope N_back_of ["one"] (defScope s_back_of) := ⟨rfl, rfl, rfl, by decide +kernel, rfl, by decide +kernel, by decide +kernel⟩
def m_back_of : FSt := (sSeq (sSet 1 (fOp gMul (fH (fG (fLst (aCons (gC (.int 0)) aNil)))) (fH (fG (fCall gLen (aCons (hName 0) aNil))))))
    (sSeq (sFor (fEnum (aCons (DS.gName 0) aNil)) (tgSeqN 2 (tgsCons (tgName 2) (tgsCons (tgName 3) tgsNil))) (sAsgW (DS.gName 2) (twSub 1 (DS.gName 3))))
    (sRet (fG (fCall gTup1 (aCons (hName 1) aNil))))))
theorem w_back_of  (T : Tk P base K mg w) (cdv : Value) (A : Around) (outer : List Env) (s : Shared) (H : Hp) (E : XK) (hg : Bare A) (hr : Room k (A.deeper (envOfC "back_of" (defScope s_back_of) s.heap.objs.size (He.ga K "back_of") cdv))) :
    DSs (cxOf (L2N.CX P w) P w K mg base N_back_of "back_of" (defScope s_back_of) (He.ga K "back_of") cdv A outer s H E) E (defBody s_back_of) (m_back_of) := by
  have hu5 := room5 hr
  have hu4 := hr.units
  have hu1 := room1 hr
  have nd := (sc_back_of).nd
  exact (ds_cons (ds_set (i := 1) nd rfl (by first | exact Or.inl rfl | exact Or.inr rfl) (do_bin o_mul os_mul (DG.h (DO.g (do_lst (da_cons dg_int da_nil)))) (DG.h (DO.g (do_callB c_len cs_len (by rfl) T.n_len bb_len (dhs_cons (dh_name (pv 0)) dhs_nil))))))
    (ds_cons (ds_for (passes_of rfl) rfl (di_enum (by rfl) T.n_enumerate (da_cons (dg_name (pv 0)) da_nil)) (dtg_seqN rfl (dtgs_cons (dtg_name (i := 2) nd rfl (by first | exact Or.inl rfl | exact Or.inr rfl)) (dtgs_cons (dtg_name (i := 3) nd rfl (by first | exact Or.inl rfl | exact Or.inr rfl)) dtgs_nil))) (ds_one (ds_asgW (dg_name (pv 2)) (dtw_sub hu1 (pv 1) (dg_name (pv 3))))))
    (ds_one (ds_ret (DO.g (do_callTy call_tupleF cs_tup1 (by rfl) T.n_tuple bt_tuple (dhs_cons (dh_name (pv 1)) dhs_nil)))))))
theorem ok_back_of  (T : Tk P base K mg w) {C : DC} (hl : ∀ ds n Q Ed, C ds n Q Ed → ds.length = 1) (hc : ∀ ds n Q Ed, C ds n Q Ed → m_back_of Ed ⟨fun δ => Q .non δ.n, Q, fun _ => False, fun _ => False⟩ (startD N_back_of ds n)) :
    OkF P w K mg base "back_of" (defArgs s_back_of) (defBody s_back_of) (defScope s_back_of) [] ["one"] (k + 1) C := okF_of T.d_back_of sc_back_of hl (w_back_of T) hc
/-! rounds_of -/
abbrev N_rounds_of : List Str := ["one", "spot", "found", "seen", "row", "here"]
theorem sc_rounds_of : FnScope N_rounds_of ["one"] (defScope s_rounds_of) := ⟨rfl, rfl, rfl, by decide +kernel, rfl, by decide +kernel, by decide +kernel⟩
def m_rounds_of : FSt := (sSeq (sPar 2 3 (aCons (fLst aNil) (aCons (fDk) aNil)))
    (sSeq (sFor (fR1 (aCons (fG (fCall gLen (aCons (hName 0) aNil))) aNil)) (tgName 1) (sSeq (sIf (tOp2 (gIn false) (hName 1) (hName 3)) sCont sNext)
    (sSeq (sPar 4 5 (aCons (fLst aNil) (aCons (fO (DS.gName 1)) aNil)))
    (sSeq (sWhile (tOp2 (gIn true) (hName 5) (hName 3)) (sSeq (sAsgW (gC (.bl true)) (twSub 3 (DS.gName 5)))
    (sSeq (sDrop (fMt 4 gAppend (aCons (DS.gName 5) aNil)))
    (sSet 5 (fOp gIx (hName 0) (hName 5))))))
    (sDrop (fMt 2 gAppend (aCons (fG (fCall gTup1 (aCons (hName 4) aNil))) aNil)))))))
    (sRet (fG (fCall gTup1 (aCons (hName 2) aNil))))))
theorem w_rounds_of  (T : Tk P base K mg w) (cdv : Value) (A : Around) (outer : List Env) (s : Shared) (H : Hp) (E : XK) (hg : Bare A) (hr : Room k (A.deeper (envOfC "rounds_of" (defScope s_rounds_of) s.heap.objs.size (He.ga K "rounds_of") cdv))) :
    DSs (cxOf (L2N.CX P w) P w K mg base N_rounds_of "rounds_of" (defScope s_rounds_of) (He.ga K "rounds_of") cdv A outer s H E) E (defBody s_rounds_of) (m_rounds_of) := by
  have hu5 := room5 hr
  have hu4 := hr.units
  have hu1 := room1 hr
  have nd := (sc_rounds_of).nd
  exact (ds_cons (ds_par (i := 2) (j := 3) rfl nd rfl rfl (by decide) rfl rfl (dos_cons (do_lst da_nil) (dos_cons do_dk dos_nil)) rfl)
    (ds_cons (ds_for (passes_of rfl) rfl (di_range1 (by rfl) T.n_range (da_cons (DO.g (do_callB c_len cs_len (by rfl) T.n_len bb_len (dhs_cons (dh_name (pv 0)) dhs_nil))) da_nil)) (dtg_name (i := 1) nd rfl (by first | exact Or.inl rfl | exact Or.inr rfl)) (ds_cons (ds_if (dt_cmp (o_in hu5) os_in (dh_name (pv 1)) (dh_name (pv 3)) (by rfl)) (ds_one ds_cont) ds_nil)
    (ds_cons (ds_par (i := 4) (j := 5) rfl nd rfl rfl (by decide) rfl rfl (dos_cons (do_lst da_nil) (dos_cons (DG.o (dg_name (pv 1))) dos_nil)) rfl)
    (ds_cons (ds_while (passes_of rfl) (dt_cmp (o_notin hu5) os_notin (dh_name (pv 5)) (dh_name (pv 3)) (by rfl)) (ds_cons (ds_asgW dg_bl (dtw_sub hu1 (pv 3) (dg_name (pv 5))))
    (ds_cons (ds_expr (dg_mt PySem.F.slot_list_append PySem.F.type_list_append mt_append mu_append (pv 4) (da_cons (dg_name (pv 5)) da_nil)))
    (ds_one (ds_set (i := 5) nd rfl (by first | exact Or.inl rfl | exact Or.inr rfl) (do_ix (i_ix hu1) os_ix (dh_name (pv 0)) (dh_name (pv 5)) (fun _ _ => rfl)))))))
    (ds_one (ds_expr (dg_mt PySem.F.slot_list_append PySem.F.type_list_append mt_append mu_append (pv 2) (da_cons (DO.g (do_callTy call_tupleF cs_tup1 (by rfl) T.n_tuple bt_tuple (dhs_cons (dh_name (pv 4)) dhs_nil))) da_nil))))))))
    (ds_one (ds_ret (DO.g (do_callTy call_tupleF cs_tup1 (by rfl) T.n_tuple bt_tuple (dhs_cons (dh_name (pv 2)) dhs_nil)))))))
theorem ok_rounds_of  (T : Tk P base K mg w) {C : DC} (hl : ∀ ds n Q Ed, C ds n Q Ed → ds.length = 1) (hc : ∀ ds n Q Ed, C ds n Q Ed → m_rounds_of Ed ⟨fun δ => Q .non δ.n, Q, fun _ => False, fun _ => False⟩ (startD N_rounds_of ds n)) :
    OkF P w K mg base "rounds_of" (defArgs s_rounds_of) (defBody s_rounds_of) (defScope s_rounds_of) [] ["one"] (k + 1) C := okF_of T.d_rounds_of sc_rounds_of hl (w_rounds_of T) hc
/-! is_turning -/
abbrev N_is_turning : List Str := ["value", "many"]
theorem sc_is_turning : FnScope N_is_turning ["value", "many"] (defScope s_is_turning) := ⟨rfl, rfl, rfl, by decide +kernel, rfl, by decide +kernel, by decide +kernel⟩
def m_is_turning (C_is_row : DC) : FSt := (sRet (gAnd (fOwn C_is_row [] (aCons (DS.gName 0) (aCons (DS.gName 1) aNil))) (fG (fOp gEq (fH (fG (fCall gSorted (aCons (hName 0) aNil)))) (fH (fG (fLstRg (fRg1 (DS.gName 1)))))))))
theorem w_is_turning {C_is_row : DC} (T : Tk P base K mg w) (h_is_row : OkF P w K mg base "is_row" (defArgs s_is_row) (defBody s_is_row) (defScope s_is_row) [] ["value", "many"] k C_is_row) (cdv : Value) (A : Around) (outer : List Env) (s : Shared) (H : Hp) (E : XK) (hg : Bare A) (hr : Room k (A.deeper (envOfC "is_turning" (defScope s_is_turning) s.heap.objs.size (He.ga K "is_turning") cdv))) :
    DSs (cxOf (L2N.CX P w) P w K mg base N_is_turning "is_turning" (defScope s_is_turning) (He.ga K "is_turning") cdv A outer s H E) E (defBody s_is_turning) (m_is_turning C_is_row) := by
  have hu5 := room5 hr
  have hu4 := hr.units
  have hu1 := room1 hr
  have nd := (sc_is_turning).nd
  exact (ds_one (ds_ret (dg_and (dg_f h_is_row hg hr (by rfl) T.g_is_row (fun _ _ _ _ _ _ us hl => match us, hl with | [_, _], _ => rfl) (da_cons (dg_name (pv 0)) (da_cons (dg_name (pv 1)) da_nil))) (dg_one (DO.g (do_cmp (op_eqD hu4) os_eq (DG.h (DO.g (do_callB c_sorted cs_sorted (by rfl) T.n_sorted bb_sorted (dhs_cons (dh_name (pv 0)) dhs_nil)))) (DG.h (DO.g (do_listRg rfl (by rfl) T.n_list (drg_1 (by rfl) T.n_range (dg_name (pv 1)))))) (by rfl)))))))
theorem ok_is_turning {C_is_row : DC} (T : Tk P base K mg w) (h_is_row : OkF P w K mg base "is_row" (defArgs s_is_row) (defBody s_is_row) (defScope s_is_row) [] ["value", "many"] k C_is_row) {C : DC} (hl : ∀ ds n Q Ed, C ds n Q Ed → ds.length = 2) (hc : ∀ ds n Q Ed, C ds n Q Ed → m_is_turning C_is_row Ed ⟨fun δ => Q .non δ.n, Q, fun _ => False, fun _ => False⟩ (startD N_is_turning ds n)) :
    OkF P w K mg base "is_turning" (defArgs s_is_turning) (defBody s_is_turning) (defScope s_is_turning) [] ["value", "many"] (k + 1) C := okF_of T.d_is_turning sc_is_turning hl (w_is_turning T h_is_row) hc
/-! need_many -/
abbrev N_need_many : List Str := ["value", "part"]
theorem sc_need_many : FnScope N_need_many ["value", "part"] (defScope s_need_many) := ⟨rfl, rfl, rfl, by decide +kernel, rfl, by decide +kernel, by decide +kernel⟩
def m_need_many (C_is_within : DC) : FSt := (sIf (fNot (fTrue (fOwn C_is_within [] (aCons (DS.gName 0) (aCons (gC (.int 1)) (aCons (gC (.int 20)) aNil)))))) (sRaise "BadNumber" ["part"] (aCons (DS.gName 1) aNil)) sNext)
theorem w_need_many {C_is_within : DC} (T : Tk P base K mg w) (h_is_within : OkF P w K mg base "is_within" (defArgs s_is_within) (defBody s_is_within) (defScope s_is_within) [] ["value", "least", "most"] k C_is_within) (cdv : Value) (A : Around) (outer : List Env) (s : Shared) (H : Hp) (E : XK) (hg : Bare A) (hr : Room (k + 1) (A.deeper (envOfC "need_many" (defScope s_need_many) s.heap.objs.size (He.ga K "need_many") cdv))) :
    DSs (cxOf (L2N.CX P w) P w K mg base N_need_many "need_many" (defScope s_need_many) (He.ga K "need_many") cdv A outer s H E) E (defBody s_need_many) (m_need_many C_is_within) := by
  have hrx := hr
  have hr := hrx.mono (show k ≤ k + 1 by omega)
  have hu5 := room5 hr
  have hu4 := hr.units
  have hu1 := room1 hr
  have nd := (sc_need_many).nd
  exact (ds_one (ds_if (dt_not (dt_val (dg_f h_is_within hg hr (by rfl) T.g_is_within (fun _ _ _ _ _ _ us hl => match us, hl with | [_, _, _], _ => rfl) (da_cons (dg_name (pv 0)) (da_cons dg_int (da_cons (dg_gint (by rfl) T.c_MOST_SPOTS) da_nil)))))) (ds_one (ds_raise T.x_BadNumber rfl hrx (by rfl) T.g_BadNumber (da_cons (dg_name (pv 1)) da_nil))) ds_nil))
theorem ok_need_many {C_is_within : DC} (T : Tk P base K mg w) (h_is_within : OkF P w K mg base "is_within" (defArgs s_is_within) (defBody s_is_within) (defScope s_is_within) [] ["value", "least", "most"] k C_is_within) {C : DC} (hl : ∀ ds n Q Ed, C ds n Q Ed → ds.length = 2) (hc : ∀ ds n Q Ed, C ds n Q Ed → m_need_many C_is_within Ed ⟨fun δ => Q .non δ.n, Q, fun _ => False, fun _ => False⟩ (startD N_need_many ds n)) :
    OkF P w K mg base "need_many" (defArgs s_need_many) (defBody s_need_many) (defScope s_need_many) [.str "many"] ["value", "part"] (k + 2) C := okF_of T.d_need_many sc_need_many hl (w_need_many T h_is_within) hc
/-! need_turning -/
abbrev N_need_turning : List Str := ["value", "many", "part"]
theorem sc_need_turning : FnScope N_need_turning ["value", "many", "part"] (defScope s_need_turning) := ⟨rfl, rfl, rfl, by decide +kernel, rfl, by decide +kernel, by decide +kernel⟩
def m_need_turning (C_is_turning : DC) : FSt := (sSeq (sIf (fNot (fTrue (fOwn C_is_turning [] (aCons (DS.gName 0) (aCons (DS.gName 1) aNil))))) (sRaise "BadTurning" ["part"] (aCons (DS.gName 2) aNil)) sNext)
    (sRet (fG (fCall gTup1 (aCons (hName 0) aNil)))))
theorem w_need_turning {C_is_turning : DC} (T : Tk P base K mg w) (h_is_turning : OkF P w K mg base "is_turning" (defArgs s_is_turning) (defBody s_is_turning) (defScope s_is_turning) [] ["value", "many"] k C_is_turning) (cdv : Value) (A : Around) (outer : List Env) (s : Shared) (H : Hp) (E : XK) (hg : Bare A) (hr : Room (k + 1) (A.deeper (envOfC "need_turning" (defScope s_need_turning) s.heap.objs.size (He.ga K "need_turning") cdv))) :
    DSs (cxOf (L2N.CX P w) P w K mg base N_need_turning "need_turning" (defScope s_need_turning) (He.ga K "need_turning") cdv A outer s H E) E (defBody s_need_turning) (m_need_turning C_is_turning) := by
  have hrx := hr
  have hr := hrx.mono (show k ≤ k + 1 by omega)
  have hu5 := room5 hr
  have hu4 := hr.units
  have hu1 := room1 hr
  have nd := (sc_need_turning).nd
  exact (ds_cons (ds_if (dt_not (dt_val (dg_f h_is_turning hg hr (by rfl) T.g_is_turning (fun _ _ _ _ _ _ us hl => match us, hl with | [_, _], _ => rfl) (da_cons (dg_name (pv 0)) (da_cons (dg_name (pv 1)) da_nil))))) (ds_one (ds_raise T.x_BadTurning rfl hrx (by rfl) T.g_BadTurning (da_cons (dg_name (pv 2)) da_nil))) ds_nil)
    (ds_one (ds_ret (DO.g (do_callTy call_tupleF cs_tup1 (by rfl) T.n_tuple bt_tuple (dhs_cons (dh_name (pv 0)) dhs_nil))))))
theorem ok_need_turning {C_is_turning : DC} (T : Tk P base K mg w) (h_is_turning : OkF P w K mg base "is_turning" (defArgs s_is_turning) (defBody s_is_turning) (defScope s_is_turning) [] ["value", "many"] k C_is_turning) {C : DC} (hl : ∀ ds n Q Ed, C ds n Q Ed → ds.length = 3) (hc : ∀ ds n Q Ed, C ds n Q Ed → m_need_turning C_is_turning Ed ⟨fun δ => Q .non δ.n, Q, fun _ => False, fun _ => False⟩ (startD N_need_turning ds n)) :
    OkF P w K mg base "need_turning" (defArgs s_need_turning) (defBody s_need_turning) (defScope s_need_turning) [] ["value", "many", "part"] (k + 2) C := okF_of T.d_need_turning sc_need_turning hl (w_need_turning T h_is_turning) hc
/-! length_of -/
abbrev N_length_of : List Str := ["value"]
theorem sc_length_of : FnScope N_length_of ["value"] (defScope s_length_of) := ⟨rfl, rfl, rfl, by decide +kernel, rfl, by decide +kernel, by decide +kernel⟩
def m_length_of (C_is_turning : DC) : FSt := (sSeq (sIf (fOr (fNot (fTrue (fG (fCall gIsi (aCons (hName 0) (aCons (fH (fG (fTup (aCons (gC (.ty .lst)) (aCons (gC (.ty .tup)) aNil))))) aNil)))))) (fOr (fNot (tChain2 gLe gLe (fH (gC (.int 1))) (fH (fG (fCall gLen (aCons (hName 0) aNil)))) (fH (gC (.int 20))))) (fNot (fTrue (fOwn C_is_turning [] (aCons (DS.gName 0) (aCons (fG (fCall gLen (aCons (hName 0) aNil))) aNil))))))) (sRet (gC .non)) sNext)
    (sRet (fG (fCall gLen (aCons (hName 0) aNil)))))
theorem w_length_of {C_is_turning : DC} (T : Tk P base K mg w) (h_is_turning : OkF P w K mg base "is_turning" (defArgs s_is_turning) (defBody s_is_turning) (defScope s_is_turning) [] ["value", "many"] k C_is_turning) (cdv : Value) (A : Around) (outer : List Env) (s : Shared) (H : Hp) (E : XK) (hg : Bare A) (hr : Room k (A.deeper (envOfC "length_of" (defScope s_length_of) s.heap.objs.size (He.ga K "length_of") cdv))) :
    DSs (cxOf (L2N.CX P w) P w K mg base N_length_of "length_of" (defScope s_length_of) (He.ga K "length_of") cdv A outer s H E) E (defBody s_length_of) (m_length_of C_is_turning) := by
  have hu5 := room5 hr
  have hu4 := hr.units
  have hu1 := room1 hr
  have nd := (sc_length_of).nd
  exact (ds_cons (ds_if (DW.t (dw_or (dt_not (dt_val (DO.g (do_callB c_isi cs_isi (by rfl) T.n_isinstance bb_isinstance (dhs_cons (dh_name (pv 0)) (dhs_cons (DG.h (DO.g (do_tup (da_cons (dg_ty (by rfl) T.n_list bt_list) (da_cons (dg_ty (by rfl) T.n_tuple bt_tuple) da_nil))))) dhs_nil)))))) (dw_or (dt_not (dt_chain op_le op_le os_le os_le (DG.h dg_int) (DG.h (DO.g (do_callB c_len cs_len (by rfl) T.n_len bb_len (dhs_cons (dh_name (pv 0)) dhs_nil)))) (DG.h (dg_gint (by rfl) T.c_MOST_SPOTS)))) (dw_or1 (dt_not (dt_val (dg_f h_is_turning hg hr (by rfl) T.g_is_turning (fun _ _ _ _ _ _ us hl => match us, hl with | [_, _], _ => rfl) (da_cons (dg_name (pv 0)) (da_cons (DO.g (do_callB c_len cs_len (by rfl) T.n_len bb_len (dhs_cons (dh_name (pv 0)) dhs_nil))) da_nil))))))))) (ds_one (ds_ret dg_non)) ds_nil)
    (ds_one (ds_ret (DO.g (do_callB c_len cs_len (by rfl) T.n_len bb_len (dhs_cons (dh_name (pv 0)) dhs_nil))))))
theorem ok_length_of {C_is_turning : DC} (T : Tk P base K mg w) (h_is_turning : OkF P w K mg base "is_turning" (defArgs s_is_turning) (defBody s_is_turning) (defScope s_is_turning) [] ["value", "many"] k C_is_turning) {C : DC} (hl : ∀ ds n Q Ed, C ds n Q Ed → ds.length = 1) (hc : ∀ ds n Q Ed, C ds n Q Ed → m_length_of C_is_turning Ed ⟨fun δ => Q .non δ.n, Q, fun _ => False, fun _ => False⟩ (startD N_length_of ds n)) :
    OkF P w K mg base "length_of" (defArgs s_length_of) (defBody s_length_of) (defScope s_length_of) [] ["value"] (k + 1) C := okF_of T.d_length_of sc_length_of hl (w_length_of T h_is_turning) hc
/-! need_pair -/
abbrev N_need_pair : List Str := ["one", "other", "many"]
theorem sc_need_pair : FnScope N_need_pair ["one", "other"] (defScope s_need_pair) := ⟨rfl, rfl, rfl, by decide +kernel, rfl, by decide +kernel, by decide +kernel⟩
def m_need_pair (C_need_turning : DC) (C_length_of : DC) : FSt := (sSeq (sSet 2 (fO (fOwn C_length_of [] (aCons (DS.gName 0) aNil))))
    (sSeq (sIf (tOp2 gIs (hName 2) (fH (gC .non))) (sRaise "BadTurning" ["part"] (aCons (gC (.str "one")) aNil)) sNext)
    (sRet (fG (fTup (aCons (fG (fCall gTup1 (aCons (hName 0) aNil))) (aCons (fOwn C_need_turning [] (aCons (DS.gName 1) (aCons (DS.gName 2) (aCons (gC (.str "other")) aNil)))) aNil)))))))
theorem w_need_pair {C_need_turning : DC} {C_length_of : DC} (T : Tk P base K mg w) (h_need_turning : OkF P w K mg base "need_turning" (defArgs s_need_turning) (defBody s_need_turning) (defScope s_need_turning) [] ["value", "many", "part"] k C_need_turning) (h_length_of : OkF P w K mg base "length_of" (defArgs s_length_of) (defBody s_length_of) (defScope s_length_of) [] ["value"] k C_length_of) (cdv : Value) (A : Around) (outer : List Env) (s : Shared) (H : Hp) (E : XK) (hg : Bare A) (hr : Room (k + 1) (A.deeper (envOfC "need_pair" (defScope s_need_pair) s.heap.objs.size (He.ga K "need_pair") cdv))) :
    DSs (cxOf (L2N.CX P w) P w K mg base N_need_pair "need_pair" (defScope s_need_pair) (He.ga K "need_pair") cdv A outer s H E) E (defBody s_need_pair) (m_need_pair C_need_turning C_length_of) := by
  have hrx := hr
  have hr := hrx.mono (show k ≤ k + 1 by omega)
  have hu5 := room5 hr
  have hu4 := hr.units
  have hu1 := room1 hr
  have nd := (sc_need_pair).nd
  exact (ds_cons (ds_set (i := 2) nd rfl (by first | exact Or.inl rfl | exact Or.inr rfl) (DG.o (dg_f h_length_of hg hr (by rfl) T.g_length_of (fun _ _ _ _ _ _ us hl => match us, hl with | [_], _ => rfl) (da_cons (dg_name (pv 0)) da_nil))))
    (ds_cons (ds_if (dt_cmp o_is os_is (dh_name (pv 2)) (DG.h dg_non) (by rfl)) (ds_one (ds_raise T.x_BadTurning rfl hrx (by rfl) T.g_BadTurning (da_cons dg_str da_nil))) ds_nil)
    (ds_one (ds_ret (DO.g (do_tup (da_cons (DO.g (do_callTy call_tupleF cs_tup1 (by rfl) T.n_tuple bt_tuple (dhs_cons (dh_name (pv 0)) dhs_nil))) (da_cons (dg_f h_need_turning hg hr (by rfl) T.g_need_turning (fun _ _ _ _ _ _ us hl => match us, hl with | [_, _, _], _ => rfl) (da_cons (dg_name (pv 1)) (da_cons (dg_name (pv 2)) (da_cons dg_str da_nil)))) da_nil))))))))
theorem ok_need_pair {C_need_turning : DC} {C_length_of : DC} (T : Tk P base K mg w) (h_need_turning : OkF P w K mg base "need_turning" (defArgs s_need_turning) (defBody s_need_turning) (defScope s_need_turning) [] ["value", "many", "part"] k C_need_turning) (h_length_of : OkF P w K mg base "length_of" (defArgs s_length_of) (defBody s_length_of) (defScope s_length_of) [] ["value"] k C_length_of) {C : DC} (hl : ∀ ds n Q Ed, C ds n Q Ed → ds.length = 2) (hc : ∀ ds n Q Ed, C ds n Q Ed → m_need_pair C_need_turning C_length_of Ed ⟨fun δ => Q .non δ.n, Q, fun _ => False, fun _ => False⟩ (startD N_need_pair ds n)) :
    OkF P w K mg base "need_pair" (defArgs s_need_pair) (defBody s_need_pair) (defScope s_need_pair) [] ["one", "other"] (k + 2) C := okF_of T.d_need_pair sc_need_pair hl (w_need_pair T h_need_turning h_length_of) hc
/-! still -/
abbrev N_still : List Str := ["many"]
theorem sc_still : FnScope N_still ["many"] (defScope s_still) := ⟨rfl, rfl, rfl, by decide +kernel, rfl, by decide +kernel, by decide +kernel⟩
def m_still (C_still_of : DC) (C_need_many : DC) : FSt := (sSeq (sDrop (fOwn C_need_many [.str "many"] (aCons (DS.gName 0) aNil)))
    (sRet (fOwn C_still_of [] (aCons (DS.gName 0) aNil))))
theorem w_still {C_still_of : DC} {C_need_many : DC} (T : Tk P base K mg w) (h_still_of : OkF P w K mg base "still_of" (defArgs s_still_of) (defBody s_still_of) (defScope s_still_of) [] ["many"] k C_still_of) (h_need_many : OkF P w K mg base "need_many" (defArgs s_need_many) (defBody s_need_many) (defScope s_need_many) [.str "many"] ["value", "part"] k C_need_many) (cdv : Value) (A : Around) (outer : List Env) (s : Shared) (H : Hp) (E : XK) (hg : Bare A) (hr : Room k (A.deeper (envOfC "still" (defScope s_still) s.heap.objs.size (He.ga K "still") cdv))) :
    DSs (cxOf (L2N.CX P w) P w K mg base N_still "still" (defScope s_still) (He.ga K "still") cdv A outer s H E) E (defBody s_still) (m_still C_still_of C_need_many) := by
  have hu5 := room5 hr
  have hu4 := hr.units
  have hu1 := room1 hr
  have nd := (sc_still).nd
  exact (ds_cons (ds_expr (dg_fd 1 0 h_need_many hg hr (by rfl) T.g_need_many (by decide) rfl (fun _ _ _ _ _ _ _ us its l1 l2 => match us, its, l1, l2 with | [_], [_], _, _ => ⟨_, rfl, rfl⟩) (fun _ _ _ => (.cons (.str _) .nil)) (da_cons (dg_name (pv 0)) da_nil)))
    (ds_one (ds_ret (dg_f h_still_of hg hr (by rfl) T.g_still_of (fun _ _ _ _ _ _ us hl => match us, hl with | [_], _ => rfl) (da_cons (dg_name (pv 0)) da_nil)))))
theorem ok_still {C_still_of : DC} {C_need_many : DC} (T : Tk P base K mg w) (h_still_of : OkF P w K mg base "still_of" (defArgs s_still_of) (defBody s_still_of) (defScope s_still_of) [] ["many"] k C_still_of) (h_need_many : OkF P w K mg base "need_many" (defArgs s_need_many) (defBody s_need_many) (defScope s_need_many) [.str "many"] ["value", "part"] k C_need_many) {C : DC} (hl : ∀ ds n Q Ed, C ds n Q Ed → ds.length = 1) (hc : ∀ ds n Q Ed, C ds n Q Ed → m_still C_still_of C_need_many Ed ⟨fun δ => Q .non δ.n, Q, fun _ => False, fun _ => False⟩ (startD N_still ds n)) :
    OkF P w K mg base "still" (defArgs s_still) (defBody s_still) (defScope s_still) [] ["many"] (k + 1) C := okF_of T.d_still sc_still hl (w_still T h_still_of h_need_many) hc
/-! product -/
abbrev N_product : List Str := ["one", "other", "first", "last"]
theorem sc_product : FnScope N_product ["one", "other"] (defScope s_product) := ⟨rfl, rfl, rfl, by decide +kernel, rfl, by decide +kernel, by decide +kernel⟩
def m_product (C_then : DC) (C_need_pair : DC) : FSt := (sSeq (sAsg (fOwn C_need_pair [] (aCons (DS.gName 0) (aCons (DS.gName 1) aNil))) (tgSeqN 2 (tgsCons (tgName 2) (tgsCons (tgName 3) tgsNil))))
    (sRet (fOwn C_then [] (aCons (DS.gName 2) (aCons (DS.gName 3) aNil)))))
theorem w_product {C_then : DC} {C_need_pair : DC} (T : Tk P base K mg w) (h_then : OkF P w K mg base "then" (defArgs s_then) (defBody s_then) (defScope s_then) [] ["one", "other"] k C_then) (h_need_pair : OkF P w K mg base "need_pair" (defArgs s_need_pair) (defBody s_need_pair) (defScope s_need_pair) [] ["one", "other"] k C_need_pair) (cdv : Value) (A : Around) (outer : List Env) (s : Shared) (H : Hp) (E : XK) (hg : Bare A) (hr : Room k (A.deeper (envOfC "product" (defScope s_product) s.heap.objs.size (He.ga K "product") cdv))) :
    DSs (cxOf (L2N.CX P w) P w K mg base N_product "product" (defScope s_product) (He.ga K "product") cdv A outer s H E) E (defBody s_product) (m_product C_then C_need_pair) := by
  have hu5 := room5 hr
  have hu4 := hr.units
  have hu1 := room1 hr
  have nd := (sc_product).nd
  exact (ds_cons (ds_asg (dg_f h_need_pair hg hr (by rfl) T.g_need_pair (fun _ _ _ _ _ _ us hl => match us, hl with | [_, _], _ => rfl) (da_cons (dg_name (pv 0)) (da_cons (dg_name (pv 1)) da_nil))) (dtg_seqN rfl (dtgs_cons (dtg_name (i := 2) nd rfl (by first | exact Or.inl rfl | exact Or.inr rfl)) (dtgs_cons (dtg_name (i := 3) nd rfl (by first | exact Or.inl rfl | exact Or.inr rfl)) dtgs_nil))))
    (ds_one (ds_ret (dg_f h_then hg hr (by rfl) T.g_then (fun _ _ _ _ _ _ us hl => match us, hl with | [_, _], _ => rfl) (da_cons (dg_name (pv 2)) (da_cons (dg_name (pv 3)) da_nil))))))
theorem ok_product {C_then : DC} {C_need_pair : DC} (T : Tk P base K mg w) (h_then : OkF P w K mg base "then" (defArgs s_then) (defBody s_then) (defScope s_then) [] ["one", "other"] k C_then) (h_need_pair : OkF P w K mg base "need_pair" (defArgs s_need_pair) (defBody s_need_pair) (defScope s_need_pair) [] ["one", "other"] k C_need_pair) {C : DC} (hl : ∀ ds n Q Ed, C ds n Q Ed → ds.length = 2) (hc : ∀ ds n Q Ed, C ds n Q Ed → m_product C_then C_need_pair Ed ⟨fun δ => Q .non δ.n, Q, fun _ => False, fun _ => False⟩ (startD N_product ds n)) :
    OkF P w K mg base "product" (defArgs s_product) (defBody s_product) (defScope s_product) [] ["one", "other"] (k + 1) C := okF_of T.d_product sc_product hl (w_product T h_then h_need_pair) hc
/-! backward -/
abbrev N_backward : List Str := ["one"]
theorem sc_backward : FnScope N_backward ["one"] (defScope s_backward) := ⟨rfl, rfl, rfl, by decide +kernel, rfl, by decide +kernel, by decide +kernel⟩
def m_backward (C_back_of : DC) (C_length_of : DC) : FSt := (sSeq (sIf (tOp2 gIs (fH (fOwn C_length_of [] (aCons (DS.gName 0) aNil))) (fH (gC .non))) (sRaise "BadTurning" ["part"] (aCons (gC (.str "one")) aNil)) sNext)
    (sRet (fOwn C_back_of [] (aCons (fG (fCall gTup1 (aCons (hName 0) aNil))) aNil))))
theorem w_backward {C_back_of : DC} {C_length_of : DC} (T : Tk P base K mg w) (h_back_of : OkF P w K mg base "back_of" (defArgs s_back_of) (defBody s_back_of) (defScope s_back_of) [] ["one"] k C_back_of) (h_length_of : OkF P w K mg base "length_of" (defArgs s_length_of) (defBody s_length_of) (defScope s_length_of) [] ["value"] k C_length_of) (cdv : Value) (A : Around) (outer : List Env) (s : Shared) (H : Hp) (E : XK) (hg : Bare A) (hr : Room (k + 1) (A.deeper (envOfC "backward" (defScope s_backward) s.heap.objs.size (He.ga K "backward") cdv))) :
    DSs (cxOf (L2N.CX P w) P w K mg base N_backward "backward" (defScope s_backward) (He.ga K "backward") cdv A outer s H E) E (defBody s_backward) (m_backward C_back_of C_length_of) := by
  have hrx := hr
  have hr := hrx.mono (show k ≤ k + 1 by omega)
  have hu5 := room5 hr
  have hu4 := hr.units
  have hu1 := room1 hr
  have nd := (sc_backward).nd
  exact (ds_cons (ds_if (dt_cmp o_is os_is (DG.h (dg_f h_length_of hg hr (by rfl) T.g_length_of (fun _ _ _ _ _ _ us hl => match us, hl with | [_], _ => rfl) (da_cons (dg_name (pv 0)) da_nil))) (DG.h dg_non) (by rfl)) (ds_one (ds_raise T.x_BadTurning rfl hrx (by rfl) T.g_BadTurning (da_cons dg_str da_nil))) ds_nil)
    (ds_one (ds_ret (dg_f h_back_of hg hr (by rfl) T.g_back_of (fun _ _ _ _ _ _ us hl => match us, hl with | [_], _ => rfl) (da_cons (DO.g (do_callTy call_tupleF cs_tup1 (by rfl) T.n_tuple bt_tuple (dhs_cons (dh_name (pv 0)) dhs_nil))) da_nil)))))
theorem ok_backward {C_back_of : DC} {C_length_of : DC} (T : Tk P base K mg w) (h_back_of : OkF P w K mg base "back_of" (defArgs s_back_of) (defBody s_back_of) (defScope s_back_of) [] ["one"] k C_back_of) (h_length_of : OkF P w K mg base "length_of" (defArgs s_length_of) (defBody s_length_of) (defScope s_length_of) [] ["value"] k C_length_of) {C : DC} (hl : ∀ ds n Q Ed, C ds n Q Ed → ds.length = 1) (hc : ∀ ds n Q Ed, C ds n Q Ed → m_backward C_back_of C_length_of Ed ⟨fun δ => Q .non δ.n, Q, fun _ => False, fun _ => False⟩ (startD N_backward ds n)) :
    OkF P w K mg base "backward" (defArgs s_backward) (defBody s_backward) (defScope s_backward) [] ["one"] (k + 2) C := okF_of T.d_backward sc_backward hl (w_backward T h_back_of h_length_of) hc
/-! rounds -/
abbrev N_rounds : List Str := ["one"]
theorem sc_rounds : FnScope N_rounds ["one"] (defScope s_rounds) := ⟨rfl, rfl, rfl, by decide +kernel, rfl, by decide +kernel, by decide +kernel⟩
def m_rounds (C_rounds_of : DC) (C_length_of : DC) : FSt := (sSeq (sIf (tOp2 gIs (fH (fOwn C_length_of [] (aCons (DS.gName 0) aNil))) (fH (gC .non))) (sRaise "BadTurning" ["part"] (aCons (gC (.str "one")) aNil)) sNext)
    (sRet (fOwn C_rounds_of [] (aCons (fG (fCall gTup1 (aCons (hName 0) aNil))) aNil))))
theorem w_rounds {C_rounds_of : DC} {C_length_of : DC} (T : Tk P base K mg w) (h_rounds_of : OkF P w K mg base "rounds_of" (defArgs s_rounds_of) (defBody s_rounds_of) (defScope s_rounds_of) [] ["one"] k C_rounds_of) (h_length_of : OkF P w K mg base "length_of" (defArgs s_length_of) (defBody s_length_of) (defScope s_length_of) [] ["value"] k C_length_of) (cdv : Value) (A : Around) (outer : List Env) (s : Shared) (H : Hp) (E : XK) (hg : Bare A) (hr : Room (k + 1) (A.deeper (envOfC "rounds" (defScope s_rounds) s.heap.objs.size (He.ga K "rounds") cdv))) :
    DSs (cxOf (L2N.CX P w) P w K mg base N_rounds "rounds" (defScope s_rounds) (He.ga K "rounds") cdv A outer s H E) E (defBody s_rounds) (m_rounds C_rounds_of C_length_of) := by
  have hrx := hr
  have hr := hrx.mono (show k ≤ k + 1 by omega)
  have hu5 := room5 hr
  have hu4 := hr.units
  have hu1 := room1 hr
  have nd := (sc_rounds).nd
  exact (ds_cons (ds_if (dt_cmp o_is os_is (DG.h (dg_f h_length_of hg hr (by rfl) T.g_length_of (fun _ _ _ _ _ _ us hl => match us, hl with | [_], _ => rfl) (da_cons (dg_name (pv 0)) da_nil))) (DG.h dg_non) (by rfl)) (ds_one (ds_raise T.x_BadTurning rfl hrx (by rfl) T.g_BadTurning (da_cons dg_str da_nil))) ds_nil)
    (ds_one (ds_ret (dg_f h_rounds_of hg hr (by rfl) T.g_rounds_of (fun _ _ _ _ _ _ us hl => match us, hl with | [_], _ => rfl) (da_cons (DO.g (do_callTy call_tupleF cs_tup1 (by rfl) T.n_tuple bt_tuple (dhs_cons (dh_name (pv 0)) dhs_nil))) da_nil)))))
theorem ok_rounds {C_rounds_of : DC} {C_length_of : DC} (T : Tk P base K mg w) (h_rounds_of : OkF P w K mg base "rounds_of" (defArgs s_rounds_of) (defBody s_rounds_of) (defScope s_rounds_of) [] ["one"] k C_rounds_of) (h_length_of : OkF P w K mg base "length_of" (defArgs s_length_of) (defBody s_length_of) (defScope s_length_of) [] ["value"] k C_length_of) {C : DC} (hl : ∀ ds n Q Ed, C ds n Q Ed → ds.length = 1) (hc : ∀ ds n Q Ed, C ds n Q Ed → m_rounds C_rounds_of C_length_of Ed ⟨fun δ => Q .non δ.n, Q, fun _ => False, fun _ => False⟩ (startD N_rounds ds n)) :
    OkF P w K mg base "rounds" (defArgs s_rounds) (defBody s_rounds) (defScope s_rounds) [] ["one"] (k + 2) C := okF_of T.d_rounds sc_rounds hl (w_rounds T h_rounds_of h_length_of) hc
abbrev N__law_pen : List Str := ["script", "cell"]
theorem sc__law_pen : FnScope N__law_pen ["script"] (defScope s__law_pen) := ⟨rfl, rfl, rfl, by decide +kernel, rfl, by decide +kernel, by decide +kernel⟩
theorem ok__law_pen (T : Tk P base K mg w) : ∃ fd, FunD K "_law_pen" "_law_pen" (defArgs s__law_pen) (defBody s__law_pen) (defScope s__law_pen) [] [] (He.ga K "_law_pen") fd ∧ FnG P w K mg base (L2N.CX P w) (k + 1) (He.ga K "_law_pen") fd ["script"] (spPen2 K) :=
  pen_fn T.d__law_pen sc__law_pen rfl (fun cdv A outer s H E hg hr => by
    have hu5 := room5 hr
    have hu4 := hr.units
    have hu1 := room1 hr
    have nd := sc__law_pen.nd
    exact (do_lst (da_cons (DO.g (do_lc (own := [("cell", 1)]) rfl nd (di_seq (DO.g (do_slice (dh_name (pv 0)) dpo_none (dpo_some dg_int)))) (blkOk_by (N := N__law_pen) (sc := defScope s__law_pen) (by decide +kernel)) (fun _ _ _ _ _ => (dtg_name (i := 1) nd rfl (by first | exact Or.inl rfl | exact Or.inr rfl))) (fun _ _ _ _ _ => dts_nil) (fun _ _ _ _ _ => (DO.g (do_callTy call_int1 cs_int1 (by rfl) T.n_int bt_int (dhs_cons (dh_name (pv 1)) dhs_nil)))))) (da_cons dg_int (da_cons dg_int da_nil))))) (f := (fLst (aCons (fG (fLc (fSeq (fG (fSl (hName 0) fNoP (fPart (gC (.int 63)))))) (tgName 1) fYes (fG (fCall gInt1 (aCons (hName 1) aNil))) [1])) (aCons (gC (.int 0)) (aCons (gC (.int 0)) aNil))))) (fun ns Q h => pen_pure ns Q h)
abbrev N__law_draw : List Str := ["pen", "many", "rest", "at", "cell", "mixed"]
theorem sc__law_draw : FnScope N__law_draw ["pen", "many"] (defScope s__law_draw) := ⟨rfl, rfl, rfl, by decide +kernel, rfl, by decide +kernel, by decide +kernel⟩
theorem ok__law_draw (T : Tk P base K mg w) : OkF P w K mg base "_law_draw" (defArgs s__law_draw) (defBody s__law_draw) (defScope s__law_draw) [] ["pen", "many"] (k + 1) C_draw := by
  obtain ⟨fd, D⟩ := T.d__law_draw
  have f_int := T.n_int
  have f_len := T.n_len
  have f_abs := T.n_abs
  refine ⟨fd, D, FunD.okG D sc__law_draw (fun vs H Q E h => ?_) fun cdv A outer s H vs Q E hg hr h => ?_⟩
  · obtain ⟨F, p, c, ns, a, r, many, n, rfl, _⟩ := draw_start h
    rfl
  have hu := hr.units
  have nd := sc__law_draw.nd
  refine ⟨t_draw K, pss_cons (ps_if (pt_cmpR op_gt (pe_ix ix_list (pv 0) pe_int (fun _ _ => rfl)) pe_int rfl)
      (pss_cons (ps_set (i := 2) nd rfl (Or.inl rfl) (pe_callTy call_int1 (by rfl) f_int bt_int (pa_cons (pe_ix ix_list (pv 0) pe_int (fun _ _ => rfl)) pa_nil)))
        (pss_cons (ps_asg (pe_op op_fdiv (pv 2) (pv 1)) (pg_sub (pv 0) pe_int set_list))
          (pss_one (ps_ret (pe_op op_mod (pe_callTy call_int1 (by rfl) f_int bt_int (pa_cons (pv 2) pa_nil)) (pv 1))))))
      pss_nil)
    (pss_cons (ps_set (i := 3) nd rfl (Or.inl rfl) (pe_ix ix_list (pv 0) pe_int (fun _ _ => rfl)))
    (pss_cons (ps_asg (pe_op op_add (pv 3) pe_int) (pg_sub (pv 0) pe_int set_list))
    (pss_cons (ps_set (i := 4) nd rfl (Or.inl rfl) (pe_op op_add (pe_op op_mul pe_int (pv 3)) pe_int))
    (pss_cons (ps_if (pt_cmpR (op_neD hu) (pe_ix ix_list (pv 0) pe_int (fun _ _ => rfl)) (pe_lst pa_nil) rfl)
      (pss_one (ps_set (i := 4) nd rfl (Or.inl rfl) (pe_ix ix_list (pe_ix ix_list (pv 0) pe_int (fun _ _ => rfl))
        (pe_op op_mod (pe_callTy call_int1 (by rfl) f_int bt_int (pa_cons (pv 3) pa_nil)) (pe_callB call_len_seq (by rfl) f_len bb_len (pa_cons (pe_ix ix_list (pv 0) pe_int (fun _ _ => rfl)) pa_nil))) (fun _ _ => rfl)))) pss_nil)
    (pss_cons (ps_if (PW.pt (pw_and (pt_cmpR op_lt (pv 3) (pe_callB call_len_seq (by rfl) f_len bb_len (pa_cons (pe_ix ix_list (pv 0) pe_int (fun _ _ => rfl)) pa_nil)) rfl)
        (pw_and1 (pt_cmpR op_ge (pe_callB call_abs (by rfl) f_abs bb_abs (pa_cons (pv 4) pa_nil)) (pe_op op_pow pe_int pe_int) rfl))))
      (pss_cons (ps_set (i := 2) nd rfl (Or.inl rfl) (pe_op op_add (pe_op op_mul pe_int (pe_op op_sub (pe_callB call_abs (by rfl) f_abs bb_abs (pa_cons (pv 4) pa_nil)) (pe_op op_pow pe_int pe_int)))
          (pe_callTy call_int1 (by rfl) f_int bt_int (pa_cons (pe_cmpR op_lt (pv 4) pe_int rfl) pa_nil))))
        (pss_cons (ps_asg (pe_op op_fdiv (pe_callTy call_int1 (by rfl) f_int bt_int (pa_cons (pv 2) pa_nil)) (pv 1)) (pg_sub (pv 0) pe_int set_list))
          (pss_one (ps_ret (pe_op op_mod (pe_callTy call_int1 (by rfl) f_int bt_int (pa_cons (pv 2) pa_nil)) (pv 1))))))
      pss_nil)
    (pss_cons (ps_set (i := 5) nd rfl (Or.inl rfl) (pe_op op_mod (pe_callTy call_int1 (by rfl) f_int bt_int (pa_cons (pe_op op_pow (pe_op op_add (pe_op op_add (pe_op op_mod (pe_callTy call_int1 (by rfl) f_int bt_int (pa_cons (pv 4) pa_nil)) pe_int) (pe_op op_mul pe_int (pv 3))) pe_int) pe_int) pa_nil)) pe_int))
    (pss_cons (ps_set (i := 5) nd rfl (Or.inl rfl) (pe_op op_mod (pe_callTy call_int1 (by rfl) f_int bt_int (pa_cons (pe_op op_pow (pe_op op_add (pe_op op_add (pe_op op_mul (pv 5) (pe_op op_add (pe_op op_mul pe_int (pv 3)) pe_int)) (pe_op op_mul (pe_op op_mul pe_int (pv 3)) (pv 3))) pe_int) pe_int) pa_nil)) pe_int))
    (pss_one (ps_ret (pe_op op_mod (pe_callTy call_int1 (by rfl) f_int bt_int (pa_cons (pe_op op_fdiv (pv 5) pe_int) pa_nil)) (pv 1))))))))))), ?_⟩
  obtain ⟨F, p, c, ns, at_, r, many, n, rfl, PA, m1, m2, hn, fin⟩ := draw_start h
  exact draw_pure PA m1 m2 hn fin
/-! _law_pick -/
abbrev N__law_pick : List Str := ["pen", "some"]
theorem sc__law_pick : FnScope N__law_pick ["pen", "some"] (defScope s__law_pick) := ⟨rfl, rfl, rfl, by decide +kernel, rfl, by decide +kernel, by decide +kernel⟩
def m__law_pick (C__law_draw : DC) : FSt := (sRet (fG (fOp gIx (hName 1) (fH (fOwn C__law_draw [] (aCons (DS.gName 0) (aCons (fG (fCall gLen (aCons (hName 1) aNil))) aNil)))))))
theorem w__law_pick {C__law_draw : DC} (T : Tk P base K mg w) (h__law_draw : OkF P w K mg base "_law_draw" (defArgs s__law_draw) (defBody s__law_draw) (defScope s__law_draw) [] ["pen", "many"] k C__law_draw) (cdv : Value) (A : Around) (outer : List Env) (s : Shared) (H : Hp) (E : XK) (hg : Bare A) (hr : Room k (A.deeper (envOfC "_law_pick" (defScope s__law_pick) s.heap.objs.size (He.ga K "_law_pick") cdv))) :
    DSs (cxOf (L2N.CX P w) P w K mg base N__law_pick "_law_pick" (defScope s__law_pick) (He.ga K "_law_pick") cdv A outer s H E) E (defBody s__law_pick) (m__law_pick C__law_draw) := by
  have hu5 := room5 hr
  have hu4 := hr.units
  have hu1 := room1 hr
  have nd := (sc__law_pick).nd
  exact (ds_one (ds_ret (DO.g (do_ix (i_ix hu1) os_ix (dh_name (pv 1)) (DG.h (dg_f h__law_draw hg hr (by rfl) T.g__law_draw (fun _ _ _ _ _ _ us hl => match us, hl with | [_, _], _ => rfl) (da_cons (dg_name (pv 0)) (da_cons (DO.g (do_callB c_len cs_len (by rfl) T.n_len bb_len (dhs_cons (dh_name (pv 1)) dhs_nil))) da_nil)))) (fun _ _ => rfl)))))
theorem ok__law_pick {C__law_draw : DC} (T : Tk P base K mg w) (h__law_draw : OkF P w K mg base "_law_draw" (defArgs s__law_draw) (defBody s__law_draw) (defScope s__law_draw) [] ["pen", "many"] k C__law_draw) {C : DC} (hl : ∀ ds n Q Ed, C ds n Q Ed → ds.length = 2) (hc : ∀ ds n Q Ed, C ds n Q Ed → m__law_pick C__law_draw Ed ⟨fun δ => Q .non δ.n, Q, fun _ => False, fun _ => False⟩ (startD N__law_pick ds n)) :
    OkF P w K mg base "_law_pick" (defArgs s__law_pick) (defBody s__law_pick) (defScope s__law_pick) [] ["pen", "some"] (k + 1) C := okF_of T.d__law_pick sc__law_pick hl (w__law_pick T h__law_draw) hc
/-! _law_mixed -/
abbrev N__law_mixed : List Str := ["pen", "some", "at", "rest", "found"]
theorem sc__law_mixed : FnScope N__law_mixed ["pen", "some"] (defScope s__law_mixed) := ⟨rfl, rfl, rfl, by decide +kernel, rfl, by decide +kernel, by decide +kernel⟩
def m__law_mixed (C__law_draw : DC) : FSt := (sSeq (sPar 3 4 (aCons (fCall gLst1 (aCons (hName 1) aNil)) (aCons (fLst aNil) aNil)))
    (sSeq (sFor (fR1 (aCons (fG (fCall gLen (aCons (hName 3) aNil))) aNil)) (tgName 2) (sDrop (fMt 4 gAppend (aCons (fMt 3 gPopAt (aCons (fOwn C__law_draw [] (aCons (DS.gName 0) (aCons (fG (fCall gLen (aCons (hName 3) aNil))) aNil))) aNil)) aNil))))
    (sRet (DS.gName 4))))
theorem w__law_mixed {C__law_draw : DC} (T : Tk P base K mg w) (h__law_draw : OkF P w K mg base "_law_draw" (defArgs s__law_draw) (defBody s__law_draw) (defScope s__law_draw) [] ["pen", "many"] k C__law_draw) (cdv : Value) (A : Around) (outer : List Env) (s : Shared) (H : Hp) (E : XK) (hg : Bare A) (hr : Room k (A.deeper (envOfC "_law_mixed" (defScope s__law_mixed) s.heap.objs.size (He.ga K "_law_mixed") cdv))) :
    DSs (cxOf (L2N.CX P w) P w K mg base N__law_mixed "_law_mixed" (defScope s__law_mixed) (He.ga K "_law_mixed") cdv A outer s H E) E (defBody s__law_mixed) (m__law_mixed C__law_draw) := by
  have hu5 := room5 hr
  have hu4 := hr.units
  have hu1 := room1 hr
  have nd := (sc__law_mixed).nd
  exact (ds_cons (ds_par (i := 3) (j := 4) rfl nd rfl rfl (by decide) rfl rfl (dos_cons (do_callTy call_list_of cs_lst1 (by rfl) T.n_list bt_list (dhs_cons (dh_name (pv 1)) dhs_nil)) (dos_cons (do_lst da_nil) dos_nil)) rfl)
    (ds_cons (ds_for (passes_of rfl) rfl (di_range1 (by rfl) T.n_range (da_cons (DO.g (do_callB c_len cs_len (by rfl) T.n_len bb_len (dhs_cons (dh_name (pv 3)) dhs_nil))) da_nil)) (dtg_name (i := 2) nd rfl (by first | exact Or.inl rfl | exact Or.inr rfl)) (ds_one (ds_expr (dg_mt PySem.F.slot_list_append PySem.F.type_list_append mt_append mu_append (pv 4) (da_cons (dg_mt PySem.F.slot_list_pop PySem.F.type_list_pop mt_popAt mu_popAt (pv 3) (da_cons (dg_f h__law_draw hg hr (by rfl) T.g__law_draw (fun _ _ _ _ _ _ us hl => match us, hl with | [_, _], _ => rfl) (da_cons (dg_name (pv 0)) (da_cons (DO.g (do_callB c_len cs_len (by rfl) T.n_len bb_len (dhs_cons (dh_name (pv 3)) dhs_nil))) da_nil))) da_nil)) da_nil)))))
    (ds_one (ds_ret (dg_name (pv 4))))))
theorem ok__law_mixed {C__law_draw : DC} (T : Tk P base K mg w) (h__law_draw : OkF P w K mg base "_law_draw" (defArgs s__law_draw) (defBody s__law_draw) (defScope s__law_draw) [] ["pen", "many"] k C__law_draw) {C : DC} (hl : ∀ ds n Q Ed, C ds n Q Ed → ds.length = 2) (hc : ∀ ds n Q Ed, C ds n Q Ed → m__law_mixed C__law_draw Ed ⟨fun δ => Q .non δ.n, Q, fun _ => False, fun _ => False⟩ (startD N__law_mixed ds n)) :
    OkF P w K mg base "_law_mixed" (defArgs s__law_mixed) (defBody s__law_mixed) (defScope s__law_mixed) [] ["pen", "some"] (k + 1) C := okF_of T.d__law_mixed sc__law_mixed hl (w__law_mixed T h__law_draw) hc
/-! _law_back -/
abbrev N__law_back : List Str := ["one", "spot"]
theorem sc__law_back : FnScope N__law_back ["one"] (defScope s__law_back) := ⟨rfl, rfl, rfl, by decide +kernel, rfl, by decide +kernel, by decide +kernel⟩
def m__law_back : FSt := (sRet (fG (fCall gTup1 (aCons (fH (fG (fLc (fR1 (aCons (fG (fCall gLen (aCons (hName 0) aNil))) aNil)) (tgName 1) fYes (fG (fMrU gIndexT (hName 0) (aCons (hName 1) aNil))) [1]))) aNil))))
theorem w__law_back  (T : Tk P base K mg w) (cdv : Value) (A : Around) (outer : List Env) (s : Shared) (H : Hp) (E : XK) (hg : Bare A) (hr : Room k (A.deeper (envOfC "_law_back" (defScope s__law_back) s.heap.objs.size (He.ga K "_law_back") cdv))) :
    DSs (cxOf (L2N.CX P w) P w K mg base N__law_back "_law_back" (defScope s__law_back) (He.ga K "_law_back") cdv A outer s H E) E (defBody s__law_back) (m__law_back) := by
  have hu5 := room5 hr
  have hu4 := hr.units
  have hu1 := room1 hr
  have nd := (sc__law_back).nd
  exact (ds_one (ds_ret (DO.g (do_callTy call_tupleF cs_tup1 (by rfl) T.n_tuple bt_tuple (dhs_cons (DG.h (DO.g (do_lc (own := [("spot", 1)]) rfl nd (di_range1 (by rfl) T.n_range (da_cons (DO.g (do_callB c_len cs_len (by rfl) T.n_len bb_len (dhs_cons (dh_name (pv 0)) dhs_nil))) da_nil)) (blkOk_by (N := N__law_back) (sc := defScope s__law_back) (by decide +kernel)) (fun _ _ _ _ _ => (dtg_name (i := 1) nd rfl (by first | exact Or.inl rfl | exact Or.inr rfl))) (fun _ _ _ _ _ => dts_nil) (fun _ _ _ _ _ => (DO.g (do_mrU PySem.F.slot_tuple_index PySem.F.type_tuple_index mt_tupIdx ms_tupIdx (dh_name (pv 0)) (dhs_cons (dh_name (pv 1)) dhs_nil))))))) dhs_nil)))))
theorem ok__law_back  (T : Tk P base K mg w) {C : DC} (hl : ∀ ds n Q Ed, C ds n Q Ed → ds.length = 1) (hc : ∀ ds n Q Ed, C ds n Q Ed → m__law_back Ed ⟨fun δ => Q .non δ.n, Q, fun _ => False, fun _ => False⟩ (startD N__law_back ds n)) :
    OkF P w K mg base "_law_back" (defArgs s__law_back) (defBody s__law_back) (defScope s__law_back) [] ["one"] (k + 1) C := okF_of T.d__law_back sc__law_back hl (w__law_back T) hc
abbrev N__law_heard : List Str := ["ask", "error", "words", "kinds", "found", "caught"]
theorem sc__law_heard : FnScope N__law_heard ["ask"] (defScope s__law_heard) := ⟨rfl, rfl, rfl, by decide +kernel, rfl, by decide +kernel, by decide +kernel⟩
def m__law_heard : FSt := (sSeq (sIf (tOp2 gIs (hName 5) (fH (gC .non))) (sRet (fG (fLst (aCons (DS.gName 4) aNil)))) sNext)
    (sSeq (sIf (fTrue (fG (fCall (gIsx ["BadTurning", "BadNumber"] ["BadLot", "BadTurning", "BadNest", "BadLabels", "BadNumber", "BadValue", "BadWeb", "BadPuzzle", "BadPaper", "Misfit", "Nothing", "BadCommand", "NoName", "BadText", "TooMany"]) (aCons (hName 5) (aCons (fH (gC (.cls "TooMany"))) aNil))))) (sRet (fG (fTup (aCons (gC (.str "many")) (aCons (gXf ["BadTurning", "BadNumber"] "what" (DS.gName 5)) (aCons (gXf ["BadTurning", "BadNumber"] "most" (DS.gName 5)) aNil)))))) sNext)
    (sSeq (sIf (fTrue (fG (fCall (gIsx ["BadTurning", "BadNumber"] ["BadLot", "BadTurning", "BadNest", "BadLabels", "BadNumber", "BadValue", "BadWeb", "BadPuzzle", "BadPaper", "Misfit", "Nothing", "BadCommand", "NoName", "BadText", "TooMany"]) (aCons (hName 5) (aCons (fH (gC (.cls "BadText"))) aNil))))) (sRet (fG (fTup (aCons (gC (.str "text")) (aCons (gXf ["BadTurning", "BadNumber"] "line" (DS.gName 5)) (aCons (gXf ["BadTurning", "BadNumber"] "word" (DS.gName 5)) aNil)))))) sNext)
    (sSeq (sIf (fTrue (fG (fCall (gIsx ["BadTurning", "BadNumber"] ["BadLot", "BadTurning", "BadNest", "BadLabels", "BadNumber", "BadValue", "BadWeb", "BadPuzzle", "BadPaper", "Misfit", "Nothing", "BadCommand", "NoName", "BadText", "TooMany"]) (aCons (hName 5) (aCons (fH (fG (fTup (aCons (gC (.cls "BadCommand")) (aCons (gC (.cls "NoName")) aNil))))) aNil))))) (sRet (DS.fIf (fTrue (fG (fCall (gIsx ["BadTurning", "BadNumber"] ["BadLot", "BadTurning", "BadNest", "BadLabels", "BadNumber", "BadValue", "BadWeb", "BadPuzzle", "BadPaper", "Misfit", "Nothing", "BadCommand", "NoName", "BadText", "TooMany"]) (aCons (hName 5) (aCons (fH (gC (.cls "BadCommand"))) aNil))))) (fG (fTup (aCons (gC (.str "word")) (aCons (gXf ["BadTurning", "BadNumber"] "word" (DS.gName 5)) aNil)))) (fG (fTup (aCons (gC (.str "name")) (aCons (gXf ["BadTurning", "BadNumber"] "name" (DS.gName 5)) aNil)))))) sNext)
    (sSeq (sSet 2 (fLst (aCons (gC (.str "lot")) (aCons (gC (.str "turning")) (aCons (gC (.str "nest")) (aCons (gC (.str "labels")) (aCons (gC (.str "number")) (aCons (gC (.str "value")) (aCons (gC (.str "web")) (aCons (gC (.str "puzzle")) (aCons (gC (.str "paper")) (aCons (gC (.str "misfit")) (aCons (gC (.str "nothing")) aNil)))))))))))))
    (sSeq (sSet 3 (fLst (aCons (fG (fCall (gIsx ["BadTurning", "BadNumber"] ["BadLot", "BadTurning", "BadNest", "BadLabels", "BadNumber", "BadValue", "BadWeb", "BadPuzzle", "BadPaper", "Misfit", "Nothing", "BadCommand", "NoName", "BadText", "TooMany"]) (aCons (hName 5) (aCons (fH (gC (.cls "BadLot"))) aNil)))) (aCons (fG (fCall (gIsx ["BadTurning", "BadNumber"] ["BadLot", "BadTurning", "BadNest", "BadLabels", "BadNumber", "BadValue", "BadWeb", "BadPuzzle", "BadPaper", "Misfit", "Nothing", "BadCommand", "NoName", "BadText", "TooMany"]) (aCons (hName 5) (aCons (fH (gC (.cls "BadTurning"))) aNil)))) (aCons (fG (fCall (gIsx ["BadTurning", "BadNumber"] ["BadLot", "BadTurning", "BadNest", "BadLabels", "BadNumber", "BadValue", "BadWeb", "BadPuzzle", "BadPaper", "Misfit", "Nothing", "BadCommand", "NoName", "BadText", "TooMany"]) (aCons (hName 5) (aCons (fH (gC (.cls "BadNest"))) aNil)))) (aCons (fG (fCall (gIsx ["BadTurning", "BadNumber"] ["BadLot", "BadTurning", "BadNest", "BadLabels", "BadNumber", "BadValue", "BadWeb", "BadPuzzle", "BadPaper", "Misfit", "Nothing", "BadCommand", "NoName", "BadText", "TooMany"]) (aCons (hName 5) (aCons (fH (gC (.cls "BadLabels"))) aNil)))) (aCons (fG (fCall (gIsx ["BadTurning", "BadNumber"] ["BadLot", "BadTurning", "BadNest", "BadLabels", "BadNumber", "BadValue", "BadWeb", "BadPuzzle", "BadPaper", "Misfit", "Nothing", "BadCommand", "NoName", "BadText", "TooMany"]) (aCons (hName 5) (aCons (fH (gC (.cls "BadNumber"))) aNil)))) aNil)))))))
    (sSeq (sSet 3 (fOp gAdd (hName 3) (fH (fG (fLst (aCons (fG (fCall (gIsx ["BadTurning", "BadNumber"] ["BadLot", "BadTurning", "BadNest", "BadLabels", "BadNumber", "BadValue", "BadWeb", "BadPuzzle", "BadPaper", "Misfit", "Nothing", "BadCommand", "NoName", "BadText", "TooMany"]) (aCons (hName 5) (aCons (fH (gC (.cls "BadValue"))) aNil)))) (aCons (fG (fCall (gIsx ["BadTurning", "BadNumber"] ["BadLot", "BadTurning", "BadNest", "BadLabels", "BadNumber", "BadValue", "BadWeb", "BadPuzzle", "BadPaper", "Misfit", "Nothing", "BadCommand", "NoName", "BadText", "TooMany"]) (aCons (hName 5) (aCons (fH (gC (.cls "BadWeb"))) aNil)))) (aCons (fG (fCall (gIsx ["BadTurning", "BadNumber"] ["BadLot", "BadTurning", "BadNest", "BadLabels", "BadNumber", "BadValue", "BadWeb", "BadPuzzle", "BadPaper", "Misfit", "Nothing", "BadCommand", "NoName", "BadText", "TooMany"]) (aCons (hName 5) (aCons (fH (gC (.cls "BadPuzzle"))) aNil)))) (aCons (fG (fCall (gIsx ["BadTurning", "BadNumber"] ["BadLot", "BadTurning", "BadNest", "BadLabels", "BadNumber", "BadValue", "BadWeb", "BadPuzzle", "BadPaper", "Misfit", "Nothing", "BadCommand", "NoName", "BadText", "TooMany"]) (aCons (hName 5) (aCons (fH (gC (.cls "BadPaper"))) aNil)))) (aCons (fG (fCall (gIsx ["BadTurning", "BadNumber"] ["BadLot", "BadTurning", "BadNest", "BadLabels", "BadNumber", "BadValue", "BadWeb", "BadPuzzle", "BadPaper", "Misfit", "Nothing", "BadCommand", "NoName", "BadText", "TooMany"]) (aCons (hName 5) (aCons (fH (gC (.cls "Misfit"))) aNil)))) aNil))))))))))
    (sSeq (sDrop (fMt 3 gAppend (aCons (fG (fCall (gIsx ["BadTurning", "BadNumber"] ["BadLot", "BadTurning", "BadNest", "BadLabels", "BadNumber", "BadValue", "BadWeb", "BadPuzzle", "BadPaper", "Misfit", "Nothing", "BadCommand", "NoName", "BadText", "TooMany"]) (aCons (hName 5) (aCons (fH (gC (.cls "Nothing"))) aNil)))) aNil)))
    (sRet (DS.fIf (tOp2 gEq (fH (fG (fMrT "list" gCount (hName 3) (aCons (fH (gC (.bl true))) aNil)))) (fH (gC (.int 1)))) (fG (fTup (aCons (fG (fOp gIx (hName 2) (fH (fG (fMrT "list" gIndex (hName 3) (aCons (fH (gC (.bl true))) aNil)))))) (aCons (gXf ["BadTurning", "BadNumber"] "part" (DS.gName 5)) aNil)))) (fG (fTup (aCons (gC (.str "other")) aNil)))))))))))))
theorem w__law_heard (T : Tk P base K mg w) (cdv : Value) (A : Around) (outer : List Env) (s : Shared) (H : Hp) (E : XK) (hg : Bare A) (hr : Room k (A.deeper (envOfC "_law_heard" (defScope s__law_heard) s.heap.objs.size (He.ga K "_law_heard") cdv))) :
    DSs (cxOf (L2N.CX P w) P w K mg base N__law_heard "_law_heard" (defScope s__law_heard) (He.ga K "_law_heard") cdv A outer s H E) E ((defBody s__law_heard).tail.tail) m__law_heard := by
  have hu5 := room5 hr
  have hu4 := hr.units
  have hu1 := room1 hr
  have nd := sc__law_heard.nd
  exact (ds_cons (ds_if (dt_cmp o_is os_is (dh_name (pv 5)) (DG.h dg_non) (by rfl)) (ds_one (ds_ret (DO.g (do_lst (da_cons (dg_name (pv 4)) da_nil))))) ds_nil)
    (ds_cons (ds_if (dt_val (DO.g (do_callB c_isx (cs_isx T.xs) (by rfl) T.n_isinstance bb_isinstance (dhs_cons (dh_name (pv 5)) (dhs_cons (DG.h (dg_gobj (by rfl) T.g_TooMany)) dhs_nil))))) (ds_one (ds_ret (DO.g (do_tup (da_cons dg_str (da_cons (dg_xf T.na_what (dg_name (pv 5))) (da_cons (dg_xf T.na_most (dg_name (pv 5))) da_nil))))))) ds_nil)
    (ds_cons (ds_if (dt_val (DO.g (do_callB c_isx (cs_isx T.xs) (by rfl) T.n_isinstance bb_isinstance (dhs_cons (dh_name (pv 5)) (dhs_cons (DG.h (dg_gobj (by rfl) T.g_BadText)) dhs_nil))))) (ds_one (ds_ret (DO.g (do_tup (da_cons dg_str (da_cons (dg_xf T.na_line (dg_name (pv 5))) (da_cons (dg_xf T.na_word (dg_name (pv 5))) da_nil))))))) ds_nil)
    (ds_cons (ds_if (dt_val (DO.g (do_callB c_isx (cs_isx T.xs) (by rfl) T.n_isinstance bb_isinstance (dhs_cons (dh_name (pv 5)) (dhs_cons (DG.h (DO.g (do_tup (da_cons (dg_gobj (by rfl) T.g_BadCommand) (da_cons (dg_gobj (by rfl) T.g_NoName) da_nil))))) dhs_nil))))) (ds_one (ds_ret (dg_if (dt_val (DO.g (do_callB c_isx (cs_isx T.xs) (by rfl) T.n_isinstance bb_isinstance (dhs_cons (dh_name (pv 5)) (dhs_cons (DG.h (dg_gobj (by rfl) T.g_BadCommand)) dhs_nil))))) (DO.g (do_tup (da_cons dg_str (da_cons (dg_xf T.na_word (dg_name (pv 5))) da_nil)))) (DO.g (do_tup (da_cons dg_str (da_cons (dg_xf T.na_name (dg_name (pv 5))) da_nil))))))) ds_nil)
    (ds_cons (ds_set (i := 2) nd rfl (by first | exact Or.inl rfl | exact Or.inr rfl) (do_lst (da_cons dg_str (da_cons dg_str (da_cons dg_str (da_cons dg_str (da_cons dg_str (da_cons dg_str (da_cons dg_str (da_cons dg_str (da_cons dg_str (da_cons dg_str (da_cons dg_str da_nil)))))))))))))
    (ds_cons (ds_set (i := 3) nd rfl (by first | exact Or.inl rfl | exact Or.inr rfl) (do_lst (da_cons (DO.g (do_callB c_isx (cs_isx T.xs) (by rfl) T.n_isinstance bb_isinstance (dhs_cons (dh_name (pv 5)) (dhs_cons (DG.h (dg_gobj (by rfl) T.g_BadLot)) dhs_nil)))) (da_cons (DO.g (do_callB c_isx (cs_isx T.xs) (by rfl) T.n_isinstance bb_isinstance (dhs_cons (dh_name (pv 5)) (dhs_cons (DG.h (dg_gobj (by rfl) T.g_BadTurning)) dhs_nil)))) (da_cons (DO.g (do_callB c_isx (cs_isx T.xs) (by rfl) T.n_isinstance bb_isinstance (dhs_cons (dh_name (pv 5)) (dhs_cons (DG.h (dg_gobj (by rfl) T.g_BadNest)) dhs_nil)))) (da_cons (DO.g (do_callB c_isx (cs_isx T.xs) (by rfl) T.n_isinstance bb_isinstance (dhs_cons (dh_name (pv 5)) (dhs_cons (DG.h (dg_gobj (by rfl) T.g_BadLabels)) dhs_nil)))) (da_cons (DO.g (do_callB c_isx (cs_isx T.xs) (by rfl) T.n_isinstance bb_isinstance (dhs_cons (dh_name (pv 5)) (dhs_cons (DG.h (dg_gobj (by rfl) T.g_BadNumber)) dhs_nil)))) da_nil)))))))
    (ds_cons (ds_set (i := 3) nd rfl (by first | exact Or.inl rfl | exact Or.inr rfl) (do_bin o_add os_add (dh_name (pv 3)) (DG.h (DO.g (do_lst (da_cons (DO.g (do_callB c_isx (cs_isx T.xs) (by rfl) T.n_isinstance bb_isinstance (dhs_cons (dh_name (pv 5)) (dhs_cons (DG.h (dg_gobj (by rfl) T.g_BadValue)) dhs_nil)))) (da_cons (DO.g (do_callB c_isx (cs_isx T.xs) (by rfl) T.n_isinstance bb_isinstance (dhs_cons (dh_name (pv 5)) (dhs_cons (DG.h (dg_gobj (by rfl) T.g_BadWeb)) dhs_nil)))) (da_cons (DO.g (do_callB c_isx (cs_isx T.xs) (by rfl) T.n_isinstance bb_isinstance (dhs_cons (dh_name (pv 5)) (dhs_cons (DG.h (dg_gobj (by rfl) T.g_BadPuzzle)) dhs_nil)))) (da_cons (DO.g (do_callB c_isx (cs_isx T.xs) (by rfl) T.n_isinstance bb_isinstance (dhs_cons (dh_name (pv 5)) (dhs_cons (DG.h (dg_gobj (by rfl) T.g_BadPaper)) dhs_nil)))) (da_cons (DO.g (do_callB c_isx (cs_isx T.xs) (by rfl) T.n_isinstance bb_isinstance (dhs_cons (dh_name (pv 5)) (dhs_cons (DG.h (dg_gobj (by rfl) T.g_Misfit)) dhs_nil)))) da_nil))))))))))
    (ds_cons (ds_expr (dg_mt PySem.F.slot_list_append PySem.F.type_list_append mt_append mu_append (pv 3) (da_cons (DO.g (do_callB c_isx (cs_isx T.xs) (by rfl) T.n_isinstance bb_isinstance (dhs_cons (dh_name (pv 5)) (dhs_cons (DG.h (dg_gobj (by rfl) T.g_Nothing)) dhs_nil)))) da_nil)))
    (ds_one (ds_ret (dg_if (dt_cmp (op_eqD hu4) os_eq (DG.h (DO.g (do_mr PySem.F.plainAttrs_list PySem.F.slot_list_count PySem.F.type_list_count (mt_countD hu5) ms_count (dh_name (pv 3)) (dhs_cons (DG.h dg_bl) dhs_nil)))) (DG.h dg_int) (by rfl)) (DO.g (do_tup (da_cons (DO.g (do_ix (i_ix hu1) os_ix (dh_name (pv 2)) (DG.h (DO.g (do_mr PySem.F.plainAttrs_list PySem.F.slot_list_index PySem.F.type_list_index (mt_indexD hu5) ms_index (dh_name (pv 3)) (dhs_cons (DG.h dg_bl) dhs_nil)))) (fun _ _ => rfl))) (da_cons (dg_xf T.na_part (dg_name (pv 5))) da_nil)))) (DO.g (do_tup (da_cons dg_str da_nil))))))))))))))
theorem dg_hd {X : Cx} {E : XK} (T : Tk X.prog X.base X.K X.mg X.w) {params : Arguments} {lbody : Expr} {lscope : Scope} {d : Option Int} {ps : List Str} {c Pt : Addr} {m : FX D} {kk : Nat} {p lpos pos : Pos} (fv : List Nat) (hg0 : Bare X.A) (hr : Room (kk + 2) X.A) (hg : Gl X "_law_heard")
    (hcode : X.env.code = .ref c) (mem : (Pt, lamQ X) ∈ TK X.K) (one : ∀ p ∈ TK X.K, p.1 = Pt → p.2 = lamQ X) (code : PySem.W.codeHdIn X.K c Pt = true) (L : LamOk X.env.scope X.N lscope ps) (B : LamB params lbody lscope ps d) (df : DefOk params X.env d)
    (hbody : ∀ (E : XK) (A : Around) (outer : List Env) (s1 : Shared) (H1 : Hp) (f c' : Addr), Bare A → Room kk (A.deeper (lEnv X lscope s1.heap.objs.size f c')) → DG (lamC X A outer s1 H1 E lscope f c') E lbody m) :
    DG X E (.Call (.Name "_law_heard" p) [.Lambda params lbody lscope lpos] [] pos) (fHeard ["BadTurning", "BadNumber"] 6 4 5 m__law_heard fv m) := by
  obtain ⟨fd, Dh⟩ := T.d__law_heard
  have nd := sc__law_heard.nd
  exact dg_heard (Ng := N__law_heard) (fi := 4) (ci := 5) (ei := 1) (CS := He.ga X.K "LeafError") fv (Dh := Dh) sc__law_heard (fun _ _ _ _ _ _ us hl => match us, hl with | [_], _ => rfl) ⟨rfl, rfl, rfl, rfl⟩ (by decide) ⟨rfl, rfl, rfl, rfl, rfl⟩
    (fun cdv A outer s H E => ps_none2 (i := 4) (j := 5) rfl nd rfl rfl (Or.inl rfl) (Or.inl rfl)) (fun cdv A outer s H E hg hr => w__law_heard T cdv A outer s H E hg hr) T.g_LeafError T.hex hg0 hr hg T.g__law_heard (T.tabA _ _ _ mem code) hcode mem one L B df hbody
/-! _law_rounds -/
abbrev N__law_rounds : List Str := ["one", "spot", "found", "seen", "turn", "row", "here"]
theorem sc__law_rounds : FnScope N__law_rounds ["one"] (defScope s__law_rounds) := ⟨rfl, rfl, rfl, by decide +kernel, rfl, by decide +kernel, by decide +kernel⟩
def m__law_rounds : FSt := (sSeq (sPar 2 3 (aCons (fLst aNil) (aCons (fLst aNil) aNil)))
    (sSeq (sFor (fR1 (aCons (fG (fCall gLen (aCons (hName 0) aNil))) aNil)) (tgName 1) (sSeq (sPar 5 6 (aCons (fLst aNil) (aCons (fO (DS.gName 1)) aNil)))
    (sSeq (sFor (fR1 (aCons (fG (fCall gLen (aCons (hName 0) aNil))) aNil)) (tgName 4) (sSeq (sIf (tOp2 (gIn false) (hName 6) (hName 3)) sBreak sNext)
    (sSeq (sDrop (fMt 5 gAppend (aCons (DS.gName 6) aNil)))
    (sSeq (sSet 3 (fOp gAdd (hName 3) (fH (fG (fLst (aCons (DS.gName 6) aNil))))))
    (sSet 6 (fOp gIx (hName 0) (hName 6)))))))
    (sIf (tOp2 gNe (hName 5) (fH (fG (fLst aNil)))) (sDrop (fMt 2 gAppend (aCons (fG (fCall gTup1 (aCons (hName 5) aNil))) aNil))) sNext))))
    (sRet (fG (fCall gTup1 (aCons (hName 2) aNil))))))
theorem w__law_rounds  (T : Tk P base K mg w) (cdv : Value) (A : Around) (outer : List Env) (s : Shared) (H : Hp) (E : XK) (hg : Bare A) (hr : Room k (A.deeper (envOfC "_law_rounds" (defScope s__law_rounds) s.heap.objs.size (He.ga K "_law_rounds") cdv))) :
    DSs (cxOf (L2N.CX P w) P w K mg base N__law_rounds "_law_rounds" (defScope s__law_rounds) (He.ga K "_law_rounds") cdv A outer s H E) E (defBody s__law_rounds) (m__law_rounds) := by
  have hu5 := room5 hr
  have hu4 := hr.units
  have hu1 := room1 hr
  have nd := (sc__law_rounds).nd
  exact (ds_cons (ds_par (i := 2) (j := 3) rfl nd rfl rfl (by decide) rfl rfl (dos_cons (do_lst da_nil) (dos_cons (do_lst da_nil) dos_nil)) rfl)
    (ds_cons (ds_for (passes_of rfl) rfl (di_range1 (by rfl) T.n_range (da_cons (DO.g (do_callB c_len cs_len (by rfl) T.n_len bb_len (dhs_cons (dh_name (pv 0)) dhs_nil))) da_nil)) (dtg_name (i := 1) nd rfl (by first | exact Or.inl rfl | exact Or.inr rfl)) (ds_cons (ds_par (i := 5) (j := 6) rfl nd rfl rfl (by decide) rfl rfl (dos_cons (do_lst da_nil) (dos_cons (DG.o (dg_name (pv 1))) dos_nil)) rfl)
    (ds_cons (ds_for (passes_of rfl) rfl (di_range1 (by rfl) T.n_range (da_cons (DO.g (do_callB c_len cs_len (by rfl) T.n_len bb_len (dhs_cons (dh_name (pv 0)) dhs_nil))) da_nil)) (dtg_name (i := 4) nd rfl (by first | exact Or.inl rfl | exact Or.inr rfl)) (ds_cons (ds_if (dt_cmp (o_in hu5) os_in (dh_name (pv 6)) (dh_name (pv 3)) (by rfl)) (ds_one ds_break) ds_nil)
    (ds_cons (ds_expr (dg_mt PySem.F.slot_list_append PySem.F.type_list_append mt_append mu_append (pv 5) (da_cons (dg_name (pv 6)) da_nil)))
    (ds_cons (ds_set (i := 3) nd rfl (by first | exact Or.inl rfl | exact Or.inr rfl) (do_bin o_add os_add (dh_name (pv 3)) (DG.h (DO.g (do_lst (da_cons (dg_name (pv 6)) da_nil))))))
    (ds_one (ds_set (i := 6) nd rfl (by first | exact Or.inl rfl | exact Or.inr rfl) (do_ix (i_ix hu1) os_ix (dh_name (pv 0)) (dh_name (pv 6)) (fun _ _ => rfl))))))))
    (ds_one (ds_if (dt_cmp (op_neD hu4) os_ne (dh_name (pv 5)) (DG.h (DO.g (do_lst da_nil))) (by rfl)) (ds_one (ds_expr (dg_mt PySem.F.slot_list_append PySem.F.type_list_append mt_append mu_append (pv 2) (da_cons (DO.g (do_callTy call_tupleF cs_tup1 (by rfl) T.n_tuple bt_tuple (dhs_cons (dh_name (pv 5)) dhs_nil))) da_nil)))) ds_nil)))))
    (ds_one (ds_ret (DO.g (do_callTy call_tupleF cs_tup1 (by rfl) T.n_tuple bt_tuple (dhs_cons (dh_name (pv 2)) dhs_nil)))))))
theorem ok__law_rounds  (T : Tk P base K mg w) {C : DC} (hl : ∀ ds n Q Ed, C ds n Q Ed → ds.length = 1) (hc : ∀ ds n Q Ed, C ds n Q Ed → m__law_rounds Ed ⟨fun δ => Q .non δ.n, Q, fun _ => False, fun _ => False⟩ (startD N__law_rounds ds n)) :
    OkF P w K mg base "_law_rounds" (defArgs s__law_rounds) (defBody s__law_rounds) (defScope s__law_rounds) [] ["one"] (k + 1) C := okF_of T.d__law_rounds sc__law_rounds hl (w__law_rounds T) hc
/-! law -/
abbrev N_law : List Str := ["script", "pen", "turn", "many", "due", "odd", "heard", "one", "other", "none", "bad", "spot"]
theorem sc_law : FnScope N_law ["script"] (defScope s_law) := ⟨rfl, rfl, rfl, by decide +kernel, rfl, by decide +kernel, by decide +kernel⟩
def m_law (C_still : DC) (C_rounds : DC) (C_backward : DC) (C_product : DC) (C__law_pick : DC) (C__law_back : DC) (C__law_rounds : DC) (C__law_mixed : DC) : FSt := (sSeq (sFor (fR1 (aCons (gC (.int 6)) aNil)) (tgName 2) (sSeq (sSet 3 (fO (fOwn C__law_pick [] (aCons (DS.gName 1) (aCons (fG (fLst (aCons (gC (.int 1)) (aCons (gC (.int 2)) (aCons (gC (.int 3)) (aCons (gC (.int 5)) (aCons (gC (.int 9)) (aCons (gC (.int 20)) aNil)))))))) aNil)))))
    (sSeq (sPar 7 8 (aCons (fCall gTup1 (aCons (fH (fOwn C__law_mixed [] (aCons (DS.gName 1) (aCons (fG (fLstRg (fRg1 (DS.gName 3)))) aNil)))) aNil)) (aCons (fCall gTup1 (aCons (fH (fOwn C__law_mixed [] (aCons (DS.gName 1) (aCons (fG (fLstRg (fRg1 (DS.gName 3)))) aNil)))) aNil)) aNil)))
    (sSeq (sSet 4 (fCall gTup1 (aCons (fH (fG (fLc (fR1 (aCons (DS.gName 3) aNil)) (tgName 11) fYes (fG (fOp gIx (hName 8) (fH (fG (fOp gIx (hName 7) (hName 11)))))) [11]))) aNil)))
    (sSeq (sIf (tOp2 gNe (fH (fG (fCall gRepr (aCons (fH (fG (fLst (aCons (fOwn C_product [] (aCons (DS.gName 7) (aCons (fG (fCall gLst1 (aCons (hName 8) aNil))) aNil))) (aCons (fOwnK C_product (fun ds zs => bk_product_other_one ds zs) 0 2 aNil (aCons (DS.gName 8) (aCons (fG (fCall gLst1 (aCons (hName 7) aNil))) aNil))) aNil))))) aNil)))) (fH (fG (fCall gRepr (aCons (fH (fG (fLst (aCons (DS.gName 4) (aCons (DS.gName 4) aNil))))) aNil))))) (sRet (gC (.bl false))) sNext)
    (sSeq (sIf (fOr (tOp2 gNe (fH (fG (fCall gRepr (aCons (fH (fG (fLst (aCons (fOwn C_backward [] (aCons (fG (fCall gLst1 (aCons (hName 7) aNil))) aNil)) (aCons (fOwnK C_backward (fun ds zs => bk_backward_one ds zs) 0 1 aNil (aCons (DS.gName 7) aNil)) aNil))))) aNil)))) (fH (fG (fCall gRepr (aCons (fH (fG (fOp gMul (fH (fG (fLst (aCons (fOwn C__law_back [] (aCons (DS.gName 7) aNil)) aNil)))) (fH (gC (.int 2)))))) aNil))))) (tOp2 gNe (fH (fG (fCall gRepr (aCons (fH (fG (fLst (aCons (fOwn C_rounds [] (aCons (DS.gName 7) aNil)) (aCons (fOwnK C_rounds (fun ds zs => bk_rounds_one ds zs) 0 1 aNil (aCons (fG (fCall gLst1 (aCons (hName 7) aNil))) aNil)) aNil))))) aNil)))) (fH (fG (fCall gRepr (aCons (fH (fG (fOp gMul (fH (fG (fLst (aCons (fOwn C__law_rounds [] (aCons (DS.gName 7) aNil)) aNil)))) (fH (gC (.int 2)))))) aNil)))))) (sRet (gC (.bl false))) sNext)
    (sSeq (sIf (tOp2 gNe (fH (fG (fCall gRepr (aCons (fH (fG (fLst (aCons (fOwn C_still [] (aCons (DS.gName 3) aNil)) (aCons (fOwnK C_still (fun ds zs => bk_still_many ds zs) 0 1 aNil (aCons (DS.gName 3) aNil)) aNil))))) aNil)))) (fH (fG (fCall gRepr (aCons (fH (fG (fOp gMul (fH (fG (fLst (aCons (fG (fTupRg (fRg1 (DS.gName 3)))) aNil)))) (fH (gC (.int 2)))))) aNil))))) (sRet (gC (.bl false))) sNext)
    (sSeq (sSet 5 (fO (fOwn C__law_pick [] (aCons (DS.gName 1) (aCons (fG (fLst (aCons (gC .non) (aCons (gC (.int 5)) (aCons (gC (.str "ab")) (aCons (fG (fTup aNil)) (aCons (fG (fLst (aCons (gC (.int 0)) (aCons (gC (.int 0)) aNil)))) (aCons (fG (fLst (aCons (gC (.int 1)) (aCons (gC (.int 2)) aNil)))) (aCons (fG (fLst (aCons (fG (fUn gNeg (fH (gC (.int 1))))) (aCons (gC (.int 0)) aNil)))) (aCons (fG (fLst (aCons (gC (.bl true)) (aCons (gC (.int 0)) aNil)))) (aCons (fG (fLst (aCons (gC (.int 0)) (aCons (gC .non) aNil)))) (aCons (fG (fLstRg (fRg1 (gC (.int 21))))) (aCons (fG (fDk)) (aCons (fG (fLst (aCons (gC (.int 0)) (aCons (gC (.int 2)) aNil)))) (aCons (fG (fLst (aCons (gC (.str "0")) aNil))) (aCons (fG (fLst (aCons (fG (fLst (aCons (gC (.int 0)) aNil))) aNil))) aNil)))))))))))))))) aNil)))))
    (sSeq (sPar 9 10 (aCons (fO (fOwn C__law_pick [] (aCons (DS.gName 1) (aCons (fG (fLst (aCons (DS.gName 5) (aCons (fG (fTupRg (fRg1 (fG (fOp gAdd (hName 3) (fH (gC (.int 1)))))))) (aCons (fG (fSl (fH (fG (fTupRg (fRg1 (DS.gName 3))))) (fPart (gC (.int 1))) fNoP)) aNil))))) aNil)))) (aCons (fO (fOwn C__law_pick [] (aCons (DS.gName 1) (aCons (fG (fLst (aCons (gC .non) (aCons (gC (.int 0)) (aCons (gC (.int 21)) (aCons (gC (.bl true)) (aCons (gC (.str "1")) (aCons (fG (fUn gNeg (fH (gC (.int 1))))) (aCons (fG (fTup (aCons (gC (.int 1)) aNil))) aNil))))))))) aNil)))) aNil)))
    (sSeq (sIf (fAnd (tOp2 gEq (hName 3) (fH (gC (.int 1)))) (tOp2 gEqE (hName 9) (fH (fG (fTup aNil))))) (sSet 9 (fO (gC .non))) sNext)
    (sSeq (sSet 6 (fLst (aCons (fHeard ["BadTurning", "BadNumber"] 6 4 5 m__law_heard [5] (fOwn C_product [] (aCons (DS.gName 5) (aCons (gC .non) aNil)))) (aCons (fHeard ["BadTurning", "BadNumber"] 6 4 5 m__law_heard [7, 9] (fOwn C_product [] (aCons (DS.gName 7) (aCons (DS.gName 9) aNil)))) (aCons (fHeard ["BadTurning", "BadNumber"] 6 4 5 m__law_heard [5] (fOwn C_backward [] (aCons (DS.gName 5) aNil))) (aCons (fHeard ["BadTurning", "BadNumber"] 6 4 5 m__law_heard [5] (fOwn C_rounds [] (aCons (DS.gName 5) aNil))) aNil))))))
    (sIf (tOp2 gNe (fH (fG (fOp gAdd (hName 6) (fH (fG (fLst (aCons (fHeard ["BadTurning", "BadNumber"] 6 4 5 m__law_heard [10] (fOwn C_still [] (aCons (DS.gName 10) aNil))) aNil))))))) (fH (fG (fLst (aCons (fG (fTup (aCons (gC (.str "turning")) (aCons (gC (.str "one")) aNil)))) (aCons (fG (fTup (aCons (gC (.str "turning")) (aCons (gC (.str "other")) aNil)))) (aCons (fG (fTup (aCons (gC (.str "turning")) (aCons (gC (.str "one")) aNil)))) (aCons (fG (fTup (aCons (gC (.str "turning")) (aCons (gC (.str "one")) aNil)))) (aCons (fG (fTup (aCons (gC (.str "number")) (aCons (gC (.str "many")) aNil)))) aNil))))))))) (sRet (gC (.bl false))) sNext))))))))))))
    (sRet (gC (.bl true))))
theorem w_law {C_still : DC} {C_rounds : DC} {C_backward : DC} {C_product : DC} {C__law_pick : DC} {C__law_back : DC} {C__law_rounds : DC} {C__law_mixed : DC} (T : Tk P base K mg w) (h_still : OkF P w K mg base "still" (defArgs s_still) (defBody s_still) (defScope s_still) [] ["many"] k C_still) (h_rounds : OkF P w K mg base "rounds" (defArgs s_rounds) (defBody s_rounds) (defScope s_rounds) [] ["one"] k C_rounds) (h_backward : OkF P w K mg base "backward" (defArgs s_backward) (defBody s_backward) (defScope s_backward) [] ["one"] k C_backward) (h_product : OkF P w K mg base "product" (defArgs s_product) (defBody s_product) (defScope s_product) [] ["one", "other"] k C_product) (h__law_pick : OkF P w K mg base "_law_pick" (defArgs s__law_pick) (defBody s__law_pick) (defScope s__law_pick) [] ["pen", "some"] k C__law_pick) (h__law_back : OkF P w K mg base "_law_back" (defArgs s__law_back) (defBody s__law_back) (defScope s__law_back) [] ["one"] k C__law_back) (h__law_rounds : OkF P w K mg base "_law_rounds" (defArgs s__law_rounds) (defBody s__law_rounds) (defScope s__law_rounds) [] ["one"] k C__law_rounds) (h__law_mixed : OkF P w K mg base "_law_mixed" (defArgs s__law_mixed) (defBody s__law_mixed) (defScope s__law_mixed) [] ["pen", "some"] k C__law_mixed) (cdv : Value) (A : Around) (outer : List Env) (s : Shared) (H : Hp) (E : XK) (lk : ∃ c P, LamK K cdv "law" c P) (hg : Bare A) (hr : Room (k + 2) (A.deeper (envOfC "law" (defScope s_law) s.heap.objs.size (He.ga K "law") cdv))) :
    DSs (cxOf (L2N.CX P w) P w K mg base N_law "law" (defScope s_law) (He.ga K "law") cdv A outer s H E) E ((defBody s_law).tail) (m_law C_still C_rounds C_backward C_product C__law_pick C__law_back C__law_rounds C__law_mixed) := by
  obtain ⟨lc, lP, LK⟩ := lk
  have hrx := hr
  have hr := hrx.mono (show k ≤ k + 2 by omega)
  have hu5 := room5 hr
  have hu4 := hr.units
  have hu1 := room1 hr
  have nd := sc_law.nd
  exact (ds_cons (ds_for (passes_of rfl) rfl (di_range1 (by rfl) T.n_range (da_cons dg_int da_nil)) (dtg_name (i := 2) nd rfl (by first | exact Or.inl rfl | exact Or.inr rfl)) (ds_cons (ds_set (i := 3) nd rfl (by first | exact Or.inl rfl | exact Or.inr rfl) (DG.o (dg_f h__law_pick hg hr (by rfl) T.g__law_pick (fun _ _ _ _ _ _ us hl => match us, hl with | [_, _], _ => rfl) (da_cons (dg_name (pv 1)) (da_cons (DO.g (do_lst (da_cons dg_int (da_cons dg_int (da_cons dg_int (da_cons dg_int (da_cons dg_int (da_cons dg_int da_nil)))))))) da_nil)))))
    (ds_cons (ds_par2 (i := 7) (j := 8) rfl nd rfl rfl (by first | exact Or.inl rfl | exact Or.inr rfl) (by first | exact Or.inl rfl | exact Or.inr rfl) (dos_cons (do_callTy call_tupleF cs_tup1 (by rfl) T.n_tuple bt_tuple (dhs_cons (DG.h (dg_f h__law_mixed hg hr (by rfl) T.g__law_mixed (fun _ _ _ _ _ _ us hl => match us, hl with | [_, _], _ => rfl) (da_cons (dg_name (pv 1)) (da_cons (DO.g (do_listRg rfl (by rfl) T.n_list (drg_1 (by rfl) T.n_range (dg_name (pv 3))))) da_nil)))) dhs_nil)) (dos_cons (do_callTy call_tupleF cs_tup1 (by rfl) T.n_tuple bt_tuple (dhs_cons (DG.h (dg_f h__law_mixed hg hr (by rfl) T.g__law_mixed (fun _ _ _ _ _ _ us hl => match us, hl with | [_, _], _ => rfl) (da_cons (dg_name (pv 1)) (da_cons (DO.g (do_listRg rfl (by rfl) T.n_list (drg_1 (by rfl) T.n_range (dg_name (pv 3))))) da_nil)))) dhs_nil)) dos_nil)))
    (ds_cons (ds_set (i := 4) nd rfl (by first | exact Or.inl rfl | exact Or.inr rfl) (do_callTy call_tupleF cs_tup1 (by rfl) T.n_tuple bt_tuple (dhs_cons (DG.h (DO.g (do_lc (own := [("spot", 11)]) rfl nd (di_range1 (by rfl) T.n_range (da_cons (dg_name (pv 3)) da_nil)) (blkOk_by (N := N_law) (sc := defScope s_law) (by decide +kernel)) (fun _ _ _ _ _ => (dtg_name (i := 11) nd rfl (by first | exact Or.inl rfl | exact Or.inr rfl))) (fun _ _ _ _ _ => dts_nil) (fun _ _ _ _ _ => (DO.g (do_ix (i_ix hu1) os_ix (dh_name (pv 8)) (DG.h (DO.g (do_ix (i_ix hu1) os_ix (dh_name (pv 7)) (dh_name (pv 11)) (fun _ _ => rfl)))) (fun _ _ => rfl))))))) dhs_nil)))
    (ds_cons (ds_if (dt_cmp (op_neD hu4) os_ne (DG.h (DO.g (do_callB (call_reprD hg hu5) cs_repr (by rfl) T.n_repr bb_repr (dhs_cons (DG.h (DO.g (do_lst (da_cons (dg_f h_product hg hr (by rfl) T.g_product (fun _ _ _ _ _ _ us hl => match us, hl with | [_, _], _ => rfl) (da_cons (dg_name (pv 7)) (da_cons (DO.g (do_callTy call_list_of cs_lst1 (by rfl) T.n_list bt_list (dhs_cons (dh_name (pv 8)) dhs_nil))) da_nil))) (da_cons (dg_fk0 (ks := ["other", "one"]) bk_product_other_one h_product hg hr (by rfl) T.g_product bv_product_other_one bd_product_other_one (fun _ _ _ _ _ _ us ws l1 l2 => match us, ws, l1, l2 with | [], [_, _], _, _ => rfl) (dk_cons (dg_name (pv 8)) (dk_cons (DO.g (do_callTy call_list_of cs_lst1 (by rfl) T.n_list bt_list (dhs_cons (dh_name (pv 7)) dhs_nil))) dk_nil))) da_nil))))) dhs_nil)))) (DG.h (DO.g (do_callB (call_reprD hg hu5) cs_repr (by rfl) T.n_repr bb_repr (dhs_cons (DG.h (DO.g (do_lst (da_cons (dg_name (pv 4)) (da_cons (dg_name (pv 4)) da_nil))))) dhs_nil)))) (by rfl)) (ds_one (ds_ret dg_bl)) ds_nil)
    (ds_cons (ds_if (DW.t (dw_or (dt_cmp (op_neD hu4) os_ne (DG.h (DO.g (do_callB (call_reprD hg hu5) cs_repr (by rfl) T.n_repr bb_repr (dhs_cons (DG.h (DO.g (do_lst (da_cons (dg_f h_backward hg hr (by rfl) T.g_backward (fun _ _ _ _ _ _ us hl => match us, hl with | [_], _ => rfl) (da_cons (DO.g (do_callTy call_list_of cs_lst1 (by rfl) T.n_list bt_list (dhs_cons (dh_name (pv 7)) dhs_nil))) da_nil)) (da_cons (dg_fk0 (ks := ["one"]) bk_backward_one h_backward hg hr (by rfl) T.g_backward bv_backward_one bd_backward_one (fun _ _ _ _ _ _ us ws l1 l2 => match us, ws, l1, l2 with | [], [_], _, _ => rfl) (dk_cons (dg_name (pv 7)) dk_nil)) da_nil))))) dhs_nil)))) (DG.h (DO.g (do_callB (call_reprD hg hu5) cs_repr (by rfl) T.n_repr bb_repr (dhs_cons (DG.h (DO.g (do_bin o_mul os_mul (DG.h (DO.g (do_lst (da_cons (dg_f h__law_back hg hr (by rfl) T.g__law_back (fun _ _ _ _ _ _ us hl => match us, hl with | [_], _ => rfl) (da_cons (dg_name (pv 7)) da_nil)) da_nil)))) (DG.h dg_int)))) dhs_nil)))) (by rfl)) (dw_or1 (dt_cmp (op_neD hu4) os_ne (DG.h (DO.g (do_callB (call_reprD hg hu5) cs_repr (by rfl) T.n_repr bb_repr (dhs_cons (DG.h (DO.g (do_lst (da_cons (dg_f h_rounds hg hr (by rfl) T.g_rounds (fun _ _ _ _ _ _ us hl => match us, hl with | [_], _ => rfl) (da_cons (dg_name (pv 7)) da_nil)) (da_cons (dg_fk0 (ks := ["one"]) bk_rounds_one h_rounds hg hr (by rfl) T.g_rounds bv_rounds_one bd_rounds_one (fun _ _ _ _ _ _ us ws l1 l2 => match us, ws, l1, l2 with | [], [_], _, _ => rfl) (dk_cons (DO.g (do_callTy call_list_of cs_lst1 (by rfl) T.n_list bt_list (dhs_cons (dh_name (pv 7)) dhs_nil))) dk_nil)) da_nil))))) dhs_nil)))) (DG.h (DO.g (do_callB (call_reprD hg hu5) cs_repr (by rfl) T.n_repr bb_repr (dhs_cons (DG.h (DO.g (do_bin o_mul os_mul (DG.h (DO.g (do_lst (da_cons (dg_f h__law_rounds hg hr (by rfl) T.g__law_rounds (fun _ _ _ _ _ _ us hl => match us, hl with | [_], _ => rfl) (da_cons (dg_name (pv 7)) da_nil)) da_nil)))) (DG.h dg_int)))) dhs_nil)))) (by rfl))))) (ds_one (ds_ret dg_bl)) ds_nil)
    (ds_cons (ds_if (dt_cmp (op_neD hu4) os_ne (DG.h (DO.g (do_callB (call_reprD hg hu5) cs_repr (by rfl) T.n_repr bb_repr (dhs_cons (DG.h (DO.g (do_lst (da_cons (dg_f h_still hg hr (by rfl) T.g_still (fun _ _ _ _ _ _ us hl => match us, hl with | [_], _ => rfl) (da_cons (dg_name (pv 3)) da_nil)) (da_cons (dg_fk0 (ks := ["many"]) bk_still_many h_still hg hr (by rfl) T.g_still bv_still_many bd_still_many (fun _ _ _ _ _ _ us ws l1 l2 => match us, ws, l1, l2 with | [], [_], _, _ => rfl) (dk_cons (dg_name (pv 3)) dk_nil)) da_nil))))) dhs_nil)))) (DG.h (DO.g (do_callB (call_reprD hg hu5) cs_repr (by rfl) T.n_repr bb_repr (dhs_cons (DG.h (DO.g (do_bin o_mul os_mul (DG.h (DO.g (do_lst (da_cons (DO.g (do_tupRg rfl (by rfl) T.n_tuple (drg_1 (by rfl) T.n_range (dg_name (pv 3))))) da_nil)))) (DG.h dg_int)))) dhs_nil)))) (by rfl)) (ds_one (ds_ret dg_bl)) ds_nil)
    (ds_cons (ds_set (i := 5) nd rfl (by first | exact Or.inl rfl | exact Or.inr rfl) (DG.o (dg_f h__law_pick hg hr (by rfl) T.g__law_pick (fun _ _ _ _ _ _ us hl => match us, hl with | [_, _], _ => rfl) (da_cons (dg_name (pv 1)) (da_cons (DO.g (do_lst (da_cons dg_non (da_cons dg_int (da_cons dg_str (da_cons (DO.g (do_tup da_nil)) (da_cons (DO.g (do_lst (da_cons dg_int (da_cons dg_int da_nil)))) (da_cons (DO.g (do_lst (da_cons dg_int (da_cons dg_int da_nil)))) (da_cons (DO.g (do_lst (da_cons (DO.g (do_un un_neg us_neg (DG.h dg_int))) (da_cons dg_int da_nil)))) (da_cons (DO.g (do_lst (da_cons dg_bl (da_cons dg_int da_nil)))) (da_cons (DO.g (do_lst (da_cons dg_int (da_cons dg_non da_nil)))) (da_cons (DO.g (do_listRg rfl (by rfl) T.n_list (drg_1 (by rfl) T.n_range dg_int))) (da_cons (DO.g do_dk) (da_cons (DO.g (do_lst (da_cons dg_int (da_cons dg_int da_nil)))) (da_cons (DO.g (do_lst (da_cons dg_str da_nil))) (da_cons (DO.g (do_lst (da_cons (DO.g (do_lst (da_cons dg_int da_nil))) da_nil))) da_nil)))))))))))))))) da_nil)))))
    (ds_cons (ds_par2 (i := 9) (j := 10) rfl nd rfl rfl (by first | exact Or.inl rfl | exact Or.inr rfl) (by first | exact Or.inl rfl | exact Or.inr rfl) (dos_cons (DG.o (dg_f h__law_pick hg hr (by rfl) T.g__law_pick (fun _ _ _ _ _ _ us hl => match us, hl with | [_, _], _ => rfl) (da_cons (dg_name (pv 1)) (da_cons (DO.g (do_lst (da_cons (dg_name (pv 5)) (da_cons (DO.g (do_tupRg rfl (by rfl) T.n_tuple (drg_1 (by rfl) T.n_range (DO.g (do_bin o_add os_add (dh_name (pv 3)) (DG.h dg_int)))))) (da_cons (DO.g (do_slice (DG.h (DO.g (do_tupRg rfl (by rfl) T.n_tuple (drg_1 (by rfl) T.n_range (dg_name (pv 3)))))) (dpo_some dg_int) dpo_none)) da_nil))))) da_nil)))) (dos_cons (DG.o (dg_f h__law_pick hg hr (by rfl) T.g__law_pick (fun _ _ _ _ _ _ us hl => match us, hl with | [_, _], _ => rfl) (da_cons (dg_name (pv 1)) (da_cons (DO.g (do_lst (da_cons dg_non (da_cons dg_int (da_cons dg_int (da_cons dg_bl (da_cons dg_str (da_cons (DO.g (do_un un_neg us_neg (DG.h dg_int))) (da_cons (DO.g (do_tup (da_cons dg_int da_nil))) da_nil))))))))) da_nil)))) dos_nil)))
    (ds_cons (ds_if (DW.t (dw_and (dt_cmp (op_eqD hu4) os_eq (dh_name (pv 3)) (DG.h dg_int) (by rfl)) (dw_and1 (dt_cmp (op_eqE hu4) os_eqE (dh_name (pv 9)) (DG.h (DO.g (do_tup da_nil))) (by rfl))))) (ds_one (ds_set (i := 9) nd rfl (by first | exact Or.inl rfl | exact Or.inr rfl) (DG.o dg_non))) ds_nil)
    (ds_cons (ds_set (i := 6) nd rfl (by first | exact Or.inl rfl | exact Or.inr rfl) (do_lst (da_cons (dg_hd T [5] (d := none) (ps := []) hg hrx (by rfl) LK.eq LK.mem LK.one LK.code (lamOk_by (N := N_law) (sc := defScope s_law) (by decide +kernel)) ⟨rfl, fun _ _ _ _ _ _ => rfl⟩ rfl (fun E A outer s1 H1 f c1 hg hr => by have hu5 := room5 hr; have hu4 := hr.units; have hu1 := room1 hr; exact (dg_f h_product hg hr (by rfl) T.g_product (fun _ _ _ _ _ _ us hl => match us, hl with | [_, _], _ => rfl) (da_cons (dg_name (pv 5)) (da_cons dg_non da_nil))))) (da_cons (dg_hd T [7, 9] (d := (some 0)) (ps := ["a1"]) hg hrx (by rfl) LK.eq LK.mem LK.one LK.code (lamOk_by (N := N_law) (sc := defScope s_law) (by decide +kernel)) ⟨_, rfl, fun _ _ _ _ _ _ _ => ⟨_, rfl, fun _ => rfl⟩⟩ ⟨rfl, _, _, rfl⟩ (fun E A outer s1 H1 f c1 hg hr => by have hu5 := room5 hr; have hu4 := hr.units; have hu1 := room1 hr; exact (dg_f h_product hg hr (by rfl) T.g_product (fun _ _ _ _ _ _ us hl => match us, hl with | [_, _], _ => rfl) (da_cons (dg_name (pv 7)) (da_cons (dg_name (pv 9)) da_nil))))) (da_cons (dg_hd T [5] (d := (some 0)) (ps := ["a2"]) hg hrx (by rfl) LK.eq LK.mem LK.one LK.code (lamOk_by (N := N_law) (sc := defScope s_law) (by decide +kernel)) ⟨_, rfl, fun _ _ _ _ _ _ _ => ⟨_, rfl, fun _ => rfl⟩⟩ ⟨rfl, _, _, rfl⟩ (fun E A outer s1 H1 f c1 hg hr => by have hu5 := room5 hr; have hu4 := hr.units; have hu1 := room1 hr; exact (dg_f h_backward hg hr (by rfl) T.g_backward (fun _ _ _ _ _ _ us hl => match us, hl with | [_], _ => rfl) (da_cons (dg_name (pv 5)) da_nil)))) (da_cons (dg_hd T [5] (d := (some 0)) (ps := ["a3"]) hg hrx (by rfl) LK.eq LK.mem LK.one LK.code (lamOk_by (N := N_law) (sc := defScope s_law) (by decide +kernel)) ⟨_, rfl, fun _ _ _ _ _ _ _ => ⟨_, rfl, fun _ => rfl⟩⟩ ⟨rfl, _, _, rfl⟩ (fun E A outer s1 H1 f c1 hg hr => by have hu5 := room5 hr; have hu4 := hr.units; have hu1 := room1 hr; exact (dg_f h_rounds hg hr (by rfl) T.g_rounds (fun _ _ _ _ _ _ us hl => match us, hl with | [_], _ => rfl) (da_cons (dg_name (pv 5)) da_nil)))) da_nil))))))
    (ds_one (ds_if (dt_cmp (op_neD hu4) os_ne (DG.h (DO.g (do_bin o_add os_add (dh_name (pv 6)) (DG.h (DO.g (do_lst (da_cons (dg_hd T [10] (d := none) (ps := []) hg hrx (by rfl) LK.eq LK.mem LK.one LK.code (lamOk_by (N := N_law) (sc := defScope s_law) (by decide +kernel)) ⟨rfl, fun _ _ _ _ _ _ => rfl⟩ rfl (fun E A outer s1 H1 f c1 hg hr => by have hu5 := room5 hr; have hu4 := hr.units; have hu1 := room1 hr; exact (dg_f h_still hg hr (by rfl) T.g_still (fun _ _ _ _ _ _ us hl => match us, hl with | [_], _ => rfl) (da_cons (dg_name (pv 10)) da_nil)))) da_nil))))))) (DG.h (DO.g (do_lst (da_cons (DO.g (do_tup (da_cons dg_str (da_cons dg_str da_nil)))) (da_cons (DO.g (do_tup (da_cons dg_str (da_cons dg_str da_nil)))) (da_cons (DO.g (do_tup (da_cons dg_str (da_cons dg_str da_nil)))) (da_cons (DO.g (do_tup (da_cons dg_str (da_cons dg_str da_nil)))) (da_cons (DO.g (do_tup (da_cons dg_str (da_cons dg_str da_nil)))) da_nil)))))))) (by rfl)) (ds_one (ds_ret dg_bl)) ds_nil)))))))))))))
    (ds_one (ds_ret dg_bl)))
theorem ok_law {C_still : DC} {C_rounds : DC} {C_backward : DC} {C_product : DC} {C__law_pick : DC} {C__law_back : DC} {C__law_rounds : DC} {C__law_mixed : DC} (T : Tk P base K mg w) (h_still : OkF P w K mg base "still" (defArgs s_still) (defBody s_still) (defScope s_still) [] ["many"] k C_still) (h_rounds : OkF P w K mg base "rounds" (defArgs s_rounds) (defBody s_rounds) (defScope s_rounds) [] ["one"] k C_rounds) (h_backward : OkF P w K mg base "backward" (defArgs s_backward) (defBody s_backward) (defScope s_backward) [] ["one"] k C_backward) (h_product : OkF P w K mg base "product" (defArgs s_product) (defBody s_product) (defScope s_product) [] ["one", "other"] k C_product) (h__law_pick : OkF P w K mg base "_law_pick" (defArgs s__law_pick) (defBody s__law_pick) (defScope s__law_pick) [] ["pen", "some"] k C__law_pick) (h__law_back : OkF P w K mg base "_law_back" (defArgs s__law_back) (defBody s__law_back) (defScope s__law_back) [] ["one"] k C__law_back) (h__law_rounds : OkF P w K mg base "_law_rounds" (defArgs s__law_rounds) (defBody s__law_rounds) (defScope s__law_rounds) [] ["one"] k C__law_rounds) (h__law_mixed : OkF P w K mg base "_law_mixed" (defArgs s__law_mixed) (defBody s__law_mixed) (defScope s__law_mixed) [] ["pen", "some"] k C__law_mixed) (h_pen : ∃ fd, FunD K "_law_pen" "_law_pen" (defArgs s__law_pen) (defBody s__law_pen) (defScope s__law_pen) [] [] (He.ga K "_law_pen") fd ∧ FnG P w K mg base (L2N.CX P w) (k + 2) (He.ga K "_law_pen") fd ["script"] (spPen2 K))
    (hc : m_law C_still C_rounds C_backward C_product C__law_pick C__law_back C__law_rounds C__law_mixed NoE ⟨fun _ => False, fun d _ => d = .bl true, fun _ => False, fun _ => False⟩ ⟨none :: some (false, .pen) :: List.replicate 10 none, 0⟩) :
    ∃ fd, FunD K "law" "law" (defArgs s_law) (defBody s_law) (defScope s_law) [] [] (He.ga K "law") fd ∧ FnG P w K mg base (L2N.CX P w) (k + 3) (He.ga K "law") fd ["script"] (spLaw K) := by
  obtain ⟨fd0, D0, G0⟩ := h_pen
  refine law_fnL (st0 := (defBody s_law).head (by exact (fun h => by cases h))) (rest := (defBody s_law).tail) T.d_law sc_law T.nm T.on (by decide) rfl (by decide) (fun cdv A outer s H E hg hr => ?_) (w_law T h_still h_rounds h_backward h_product h__law_pick h__law_back h__law_rounds h__law_mixed) hc
  have nd := sc_law.nd
  exact ps_set (i := 1) nd rfl (by first | exact Or.inl rfl | exact Or.inr rfl) (pe_callG G0 hg hr (by rfl) T.g__law_pen D0.kp (D0.bindsN (fun _ _ _ _ _ _ us hl => match us, hl with | [_], _ => rfl)) .nil passDef (pa_cons (pv 0) pa_nil))
end
end L01
end
section
set_option maxRecDepth 100000
set_option maxHeartbeats 1000000
namespace L01
open PySem PySem.Spec PyProof.Rows L2 DS DS.Nest
local macro_rules
  | `(tactic| simp_all only [$ts,*]) => `(tactic| simp only [sRet, sIf, sSeq, sSet, sPar, sDrop, sNext, sNever, sAsg, sAsgW, sFor, fOp, fCall, fG, fH, fO, fUn, fChain, DS.fIf, tOp2, fTrue, fNot, fAnd, fOr, DS.gAnd, DS.gOr, DS.gNot, fTup, fLst, aCons, aNil, fOwn, fOwnK, fSeq, gC, DS.gName, hName, with1, with2, withs, Hd.get, startD, Dst.put, twSub, twSeq, twsCons, twsNil, twTg, tgName, tgSeqN, tgsCons, tgsNil, withO, withL, ownL, fYes, gRev, fRg1, fRg2, fLstRg, fTupRg, fR1, fR2,
  gAdd, DS.gSub, gMul, gMod, gNeg, gLt, gLe, gGt, gGe, gEq, gNe, gIx, gLen, gLst1, gTup1, gInt1, gAbs, gIsi, tyOf, tysOf, isT, gAppend, gExtend, gPop, gPopAt, fMt, fLc, fLc2, restore, wipeD, atI_0, atI_1,
  List.map_cons, List.map_nil, List.length_cons, List.length_nil, List.replicate_succ, List.replicate_zero, List.getElem?_cons_zero, List.getElem?_cons_succ, List.getElem?_nil, List.set_cons_zero, List.set_cons_succ, List.set_nil, List.nil_append, List.cons_append, List.append_nil, Nat.reduceAdd, Nat.reduceSub, $ts,*])
variable {Ed : EdT} {Q : D → Nat → Prop} {n : Nat}
/-- ends of a call: only a return -/
abbrev rtE (Q : D → Nat → Prop) : DEn := ⟨fun δ => Q .non δ.n, Q, fun _ => False, fun _ => False⟩
def isIntD : D → Bool
  | .int _ => true
  | _ => false
def C_is_integer : DC := fun ds n Q _ => ∃ d, ds = [d] ∧ (tyOf d).isSome = true ∧ Q (.bl (isIntD d)) n
theorem c_is_integer {ds : List D} (h : C_is_integer ds n Q Ed) : m_is_integer Ed (rtE Q) (startD N_is_integer ds n) := by
  obtain ⟨d, rfl, h1, h2⟩ := h
  cases d <;> first | exact h2 | (simp [tyOf] at h1)
def isSeqD : D → Bool
  | .lst _ => true
  | .tup _ => true
  | _ => false
def C_is_listed : DC := fun ds n Q _ => ∃ d, ds = [d] ∧ (tyOf d).isSome = true ∧ Q (.bl (isSeqD d)) n
theorem c_is_listed {ds : List D} (h : C_is_listed ds n Q Ed) : m_is_listed Ed (rtE Q) (startD N_is_listed ds n) := by
  obtain ⟨d, rfl, h1, h2⟩ := h
  cases d <;> first | (simp [tyOf] at h1; done) | (refine ⟨by simp [sizeLine_eq], ?_⟩; exact h2)
theorem sz20 {k : Nat} (h : k ≤ 20) : k ≤ sizeLine := by rw [sizeLine_eq]; omega
theorem blsD_map {α : Type} (f : α → Bool) (xs : List α) : blsD (xs.map fun x => D.bl (f x)) = some (xs.map f) := by
  induction xs with
  | nil => rfl
  | cons x xs ih => simp [blsD, ih]
theorem gAll_of {α : Type} (f : α → Bool) (xs : List α) {P : Bool × D → Prop} (h : P (false, .bl (xs.all f))) : gAll [.lst (xs.map fun x => .bl (f x))] P := by
  show match blsD (xs.map fun x => D.bl (f x)) with | some ns => P (false, .bl (ns.all id)) | none => False
  rw [blsD_map f]
  show P (false, .bl ((xs.map f).all id))
  rw [List.all_map]
  exact h
def upTo (many : Nat) : List D := (List.range many).map fun i => .int (i : Nat)
theorem rgD_upTo (many : Nat) : rgD 0 (many : Int) = upTo many := by
  unfold rgD upTo
  simp
theorem rgOk20 {many : Nat} (h : many ≤ 20) : RgOk 0 (many : Int) := .of_le (by omega) (by omega) (by omega) (by omega)
def C_still_of : DC := fun ds n Q _ => ∃ many : Nat, ds = [.int many] ∧ many ≤ 20 ∧ Q (.tup (upTo many)) n
theorem c_still_of {ds : List D} (h : C_still_of ds n Q Ed) : m_still_of Ed (rtE Q) (startD N_still_of ds n) := by
  obtain ⟨many, rfl, h1, h2⟩ := h
  simp_all only [m_still_of]
  rw [rgD_upTo]
  exact ⟨rgOk20 h1, h2⟩
theorem upTo_lay (k many : Nat) : ∀ x ∈ upTo many, Lay k x := fun x hx => by
  obtain ⟨i, _, rfl⟩ := List.mem_map.mp hx
  exact .int _
theorem sorted_eq {ns ms : List Int} (p : ns.Perm ms) (h1 : ns.Pairwise (· ≤ ·)) (h2 : ms.Pairwise (· ≤ ·)) : ns = ms :=
  p.eq_of_pairwise (fun a b _ _ h1 h2 => Int.le_antisymm h1 h2) h1 h2
theorem upTo_sorted (many : Nat) : ((List.range many).map fun i => ((i : Nat) : Int)).Pairwise (· ≤ ·) := by
  rw [List.pairwise_map]
  exact (List.pairwise_lt_range).imp fun h => by omega
theorem rgD_0 (k : Nat) (j : Int) (h : j = (k : Int)) : rgD 0 j = (List.range k).map fun i => .int (i : Nat) := by
  subst h
  exact rgD_upTo k
def idN (many : Nat) : List Int := (List.range many).map fun i => ((i : Nat) : Int)
def intD (xs : List Int) : List D := xs.map D.int
theorem upTo_intD (many : Nat) : upTo many = intD (idN many) := by unfold upTo intD idN; rw [List.map_map]; rfl
theorem intD_set (xs : List Int) (i : Nat) (v : Int) : intD (xs.set i v) = (intD xs).set i (.int v) := by unfold intD; rw [List.map_set]
theorem atI_map {α : Type} (f : α → D) (xs : List α) (i : Nat) (h : i < xs.length) : L2.atI (xs.map f) (i : Int) = some (f xs[i]) := by
  rw [atI_nat _ i (by simpa using h), List.getElem_map]
def C_pick : DC := fun ds n Q _ => ∃ xs : List D, ds = [.pen, .lst xs] ∧ 1 ≤ xs.length ∧ xs.length ≤ 1000 ∧ n < 1048576 ∧ ∀ x ∈ xs, Q x (n + 1)
theorem c_pick {ds : List D} (h : C_pick ds n Q Ed) : m__law_pick C_draw Ed (rtE Q) (startD N__law_pick ds n) := by
  obtain ⟨xs, rfl, h1, h2, h3, h4⟩ := h
  simp_all only [m__law_pick]
  refine ⟨(xs.length : Int), rfl, by omega, by omega, h3, fun r r0 r1 => ?_⟩
  obtain ⟨j, rfl⟩ := Int.eq_ofNat_of_zero_le r0
  have hj : j < xs.length := by omega
  simp_all only [atI_nat xs j hj]
  exact h4 _ (List.getElem_mem hj)
theorem erase_perm {α : Type} : ∀ (xs : List α) (j : Nat) (h : j < xs.length), (xs[j] :: xs.eraseIdx j).Perm xs
  | [], _, h => absurd h (by simp)
  | x :: xs, 0, _ => by simp
  | x :: xs, j + 1, h => by
    simp only [List.getElem_cons_succ, List.eraseIdx_cons_succ]
    exact (List.Perm.swap ..).trans ((erase_perm xs j (by simpa using h)).cons x)
def C_mixed : DC := fun ds n Q _ => ∃ xs : List D, ds = [.pen, .lst xs] ∧ xs.length ≤ 1000 ∧ n + xs.length < 1048576 ∧ ∀ ys, ys.Perm xs → Q (.lst ys) (n + xs.length)
theorem c_mixed {ds : List D} (h : C_mixed ds n Q Ed) : m__law_mixed C_draw Ed (rtE Q) (startD N__law_mixed ds n) := by
  obtain ⟨xs, rfl, h1, h2, h3⟩ := h
  simp_all only [m__law_mixed]
  refine ⟨sz20 (by simp), ⟨by omega, by omega⟩, ?_⟩
  rw [rgD_0 xs.length _ rfl]
  refine forP (fun i : Nat => .int (i : Nat)) (List.range xs.length) (fun pre δ => ∃ (o : Option (Bool × D)) (rest found : List D), δ = ⟨[some (false, .pen), some (false, .lst xs), o, some (true, .lst rest), some (true, .lst found)], n + pre.length⟩ ∧ (found ++ rest).Perm xs ∧ pre.length = found.length) ?_ ?_ ⟨none, xs, [], rfl, .refl _, rfl⟩
  · rintro pre x post δ K e ⟨o, rest, found, rfl, hp, hl⟩ hK
    have hlen := hp.length_eq
    have hr := congrArg List.length e
    simp only [List.length_range, List.length_append, List.length_cons] at hr hlen
    simp_all only []
    refine ⟨trivial, trivial, (rest.length : Int), rfl, by omega, by omega, by omega, fun r r0 r1 => ?_⟩
    obtain ⟨j, rfl⟩ := Int.eq_ofNat_of_zero_le r0
    have hj : j < rest.length := by omega
    have es : seqIndex? (j : Int) rest.length = some j := by rw [seqIndex_of (by omega) (by omega)]; simp
    simp_all only [es, List.getElem?_eq_getElem hj]
    refine ⟨⟨by omega, by omega⟩, ?_, hK _ ⟨some (false, .int x), rest.eraseIdx j, found ++ [rest[j]], ?_, ?_, ?_⟩⟩
    · rw [sizeLine_eq]; omega
    · simp; omega
    · refine .trans ?_ hp
      rw [List.append_assoc]
      exact List.Perm.append_left _ (erase_perm rest j hj)
    · simp [hl]
  · rintro δ ⟨o, rest, found, rfl, hp, hl⟩
    have hlen := hp.length_eq
    simp only [List.length_range, List.length_append] at hl hlen
    have : rest = [] := List.length_eq_zero_iff.mp (by omega)
    subst this
    rw [List.append_nil] at hp
    simp_all only []
    rw [List.length_range]
    exact h3 _ hp
/-- drawn shapes -/
inductive Shp where
  | leaf
  | many (w : Str) (k : Nat) (s : Shp)
  | row (ss : List Shp)
namespace Shp
mutual
def ht : Shp → Nat
  | .leaf => 0
  | .many _ _ s => s.ht + 1
  | .row ss => htL ss + 1
def htL : List Shp → Nat
  | [] => 0
  | s :: ss => max s.ht (htL ss)
end
end Shp
theorem gRepr_tup {xs : List D} {k b : Nat} {P : Bool × D → Prop} (h : ∀ x ∈ xs, Lay k x ∧ Shw b x) (hk : k + 1 ≤ 64) (hb : xs.length * (b + 2) + 3 ≤ sizeLine) (p : P (false, .str (D.tup xs).py.shown)) : gRepr [.tup xs] P := by
  have s : Shw sizeLine (.tup xs) := Shw.tup (fun x hx => (h x hx).2) hb
  exact ⟨⟨(Lay.tup fun x hx => (h x hx).1).ok hk, s.ok, s.len⟩, p⟩
theorem gRepr_lst {xs : List D} {k b : Nat} {P : Bool × D → Prop} (h : ∀ x ∈ xs, Lay k x ∧ Shw b x) (hk : k + 1 ≤ 64) (hb : xs.length * (b + 2) + 3 ≤ sizeLine) (p : P (false, .str (D.lst xs).py.shown)) : gRepr [.lst xs] P := by
  have s : Shw sizeLine (.lst xs) := Shw.lst (fun x hx => (h x hx).2) hb
  exact ⟨⟨(Lay.lst fun x hx => (h x hx).1).ok hk, s.ok, s.len⟩, p⟩
theorem strOk_of (s : String) : PyData.strOk (Str.ofString s) = true := by
  unfold PyData.strOk
  rw [Str.ofString_eq_toList, ← Array.all_toList]
  simp only [List.all_map, List.all_eq_true]
  intro c _
  have := c.valid
  simp only [Function.comp, decide_eq_true_eq]
  show c.toNat < _
  unfold UInt32.isValidChar Nat.isValidChar at this
  unfold Char.toNat
  omega
theorem strOk_add {a b : Str} (ha : PyData.strOk a = true) (hb : PyData.strOk b = true) : PyData.strOk (a ++ b) = true := by
  unfold PyData.strOk at ha hb ⊢
  rw [← Array.all_toList] at ha hb ⊢
  rw [Str.cps_append, Array.toList_append, List.all_append, ha, hb]
  rfl
theorem strOk_join (sep : Str) (hs : PyData.strOk sep = true) : ∀ ts : List Str, (∀ t ∈ ts, PyData.strOk t = true) → PyData.strOk (Str.join sep ts) = true
  | [], _ => by show PyData.strOk Str.empty = true; decide +kernel
  | [x], h => h x (by simp)
  | x :: y :: r, h => by
    show PyData.strOk (x ++ sep ++ Str.join sep (y :: r)) = true
    exact strOk_add (strOk_add (h x (by simp)) hs) (strOk_join sep hs (y :: r) fun t ht => h t (List.mem_cons_of_mem _ ht))
theorem strOk_from : ∀ (ts : List Str) (i : Nat) (a : Str), PyData.strOk a = true → (∀ t ∈ ts, PyData.strOk t = true) → PyData.strOk (textFrom i a ts) = true
  | [], _, a, ha, _ => by unfold textFrom; exact ha
  | t :: r, i, a, ha, h => by
    unfold textFrom
    refine strOk_from r _ _ ?_ fun t ht => h t (List.mem_cons_of_mem _ ht)
    refine strOk_add (strOk_add ha ?_) (h t (by simp))
    split <;> exact strOk_of _
mutual
/-- no texts within -/
def nos : D → Bool
  | .int _ => true
  | .lst xs => nosL xs
  | .tup xs => nosL xs
  | _ => false
def nosL : List D → Bool
  | [] => true
  | x :: xs => nos x && nosL xs
end
mutual
theorem shown_ok : ∀ d : D, nos d = true → PyData.strOk d.py.shown = true
  | .int i, _ => by simp only [D.py, PyData.shown]; exact strOk_of _
  | .lst xs, h => by
    simp only [D.py, PyData.shown, listText]
    exact strOk_add (strOk_from _ _ _ (strOk_of _) (shownAll_ok xs (by simpa [nos] using h))) (strOk_of _)
  | .tup xs, h => by
    simp only [D.py, PyData.shown, tupleText]
    exact strOk_add (strOk_add (strOk_of _) (strOk_join _ (strOk_of _) _ (shownAll_ok xs (by simpa [nos] using h)))) (strOk_of _)
  | .non, h => by simp [nos] at h
  | .bl _, h => by simp [nos] at h
  | .str _, h => by simp [nos] at h
  | .ins _ _ _, h => by simp [nos] at h
  | .dk _ _, h => by simp [nos] at h
  | .dt _ _, h => by simp [nos] at h
  | .ty _, h => by simp [nos] at h
  | .cls _, h => by simp [nos] at h
  | .scr _, h => by simp [nos] at h
  | .pen, h => by simp [nos] at h
theorem shownAll_ok : ∀ ds : List D, nosL ds = true → ∀ t ∈ PyData.shownAll (D.pyL ds), PyData.strOk t = true
  | [], _, t, ht => by simp [D.pyL, PyData.shownAll] at ht
  | d :: ds, h, t, ht => by
    simp only [nosL, Bool.and_eq_true] at h
    simp only [D.pyL, PyData.shownAll] at ht
    rcases List.mem_cons.mp ht with rfl | ht
    · exact shown_ok d h.1
    · exact shownAll_ok ds h.2 t ht
end
end L01
end
section
set_option maxRecDepth 100000
set_option maxHeartbeats 1000000
namespace L01
open PySem PySem.Spec PyProof.Rows L2 DS
local macro_rules
  | `(tactic| simp_all only [$ts,*]) => `(tactic| simp only [sRet, sIf, sSeq, sSet, sPar, sDrop, sNext, sNever, sAsg, sAsgW, sFor, fOp, fCall, fG, fH, fO, fUn, fChain, DS.fIf, tOp2, fTrue, fNot, fAnd, fOr, DS.gAnd, DS.gOr, DS.gNot, fTup, fLst, aCons, aNil, fOwn, fOwnK, fSeq, gC, DS.gName, hName, with1, with2, withs, Hd.get, startD, Dst.put, twSub, twSeq, twsCons, twsNil, twTg, tgName, tgSeqN, tgsCons, tgsNil, withO, withL, ownL, fYes, gRev, fRg1, fRg2, fLstRg, fTupRg, fR1, fR2,
  gAdd, DS.gSub, gMul, gMod, gNeg, gLt, gLe, gGt, gGe, gEq, gNe, gIx, gLen, gLst1, gTup1, gInt1, gAbs, gIsi, tyOf, tysOf, isT, gAppend, gExtend, gPop, gPopAt, fMt, fLc, fLc2, restore, wipeD, atI_0, atI_1,
  List.map_cons, List.map_nil, List.length_cons, List.length_nil, List.replicate_succ, List.replicate_zero, List.getElem?_cons_zero, List.getElem?_cons_succ, List.getElem?_nil, List.set_cons_zero, List.set_cons_succ, List.set_nil, List.nil_append, List.cons_append, List.append_nil, Nat.reduceAdd, Nat.reduceSub, $ts,*])
variable {Ed : EdT} {Q : D → Nat → Prop} {n : Nat}
theorem eqv_ints : ∀ a b : List Int, PyData.eqvAll (D.pyL (intD a)) (D.pyL (intD b)) = decide (a = b)
  | [], [] => by simp [intD, D.pyL, PyData.eqvAll]
  | [], _ :: _ => by simp [intD, D.pyL, PyData.eqvAll]
  | _ :: _, [] => by simp [intD, D.pyL, PyData.eqvAll]
  | x :: a, y :: b => by
    have ih := eqv_ints a b
    simp only [intD] at ih
    simp only [intD, List.map_cons, D.pyL, D.py, PyData.eqvAll, PyData.eqv, ih, List.cons.injEq, Bool.decide_and]
    by_cases h : x = y <;> simp [h]
theorem eqv_lints (a b : List Int) : (D.lst (intD a)).eqv (.lst (intD b)) = decide (a = b) := by
  simp only [D.eqv, D.py, PyData.eqv]
  exact eqv_ints a b
theorem ints_lay (k : Nat) (a : List Int) : ∀ x ∈ intD a, Lay k x := fun x hx => by
  obtain ⟨i, _, rfl⟩ := List.mem_map.mp hx
  exact .int _
theorem intsD_of (ns : List Int) : intsD (intD ns) = some ns := by
  induction ns with
  | nil => rfl
  | cons x r ih =>
    simp only [intD, List.map_cons] at ih ⊢
    simp [intsD, ih]
/-- a value of which the program may ask -/
def Fine : D → Prop
  | .lst xs => xs.length ≤ 1000 ∧ ∀ x ∈ xs, (tyOf x).isSome = true
  | .tup xs => xs.length ≤ 1000 ∧ ∀ x ∈ xs, (tyOf x).isSome = true
  | d => (tyOf d).isSome = true
theorem Fine.ty {d : D} (h : Fine d) : (tyOf d).isSome = true := by
  cases d <;> first | rfl | exact h
theorem all_ints : ∀ {xs : List D}, xs.all isIntD = true → ∃ ns, xs = intD ns
  | [], _ => ⟨[], rfl⟩
  | x :: r, h => by
    simp only [List.all_cons, Bool.and_eq_true] at h
    obtain ⟨ns, e⟩ := all_ints h.2
    cases x <;> first | (simp [isIntD] at h; done) | (rename_i i; exact ⟨i :: ns, by rw [e]; rfl⟩)
theorem ints_all (ns : List Int) : (intD ns).all isIntD = true := by
  simp [intD, isIntD]
/-- within, of any value -/
def withB : D → Int → Int → Bool
  | .int i, a, b => decide (a ≤ i) && decide (i ≤ b)
  | _, _, _ => false
def C_within : DC := fun ds n Q _ => ∃ (d : D) (a b : Int), ds = [d, .int a, .int b] ∧ (tyOf d).isSome = true ∧ Q (.bl (withB d a b)) n
theorem c_within {ds : List D} (h : C_within ds n Q Ed) : m_is_within C_is_integer Ed (rtE Q) (startD N_is_within ds n) := by
  obtain ⟨d, a, b, rfl, h1, h2⟩ := h
  refine ⟨d, rfl, h1, ?_⟩
  cases d
  case int i =>
    simp_all only [isIntD]
    simp only [withB] at h2
    cases h : decide (a ≤ i) <;> simp only [h, Bool.false_and, Bool.true_and] at h2 <;> exact h2
  all_goals exact h2
theorem lcQ {tg : FTg} {te : FX D} {vs : List Nat} {δ : Dst} (δ0 : Dst) (f : D → D) (items : List D) {K : List D → Dst → Prop} (h0 : wipeD δ vs = δ0) (len : items.length ≤ sizeLine)
    (step : ∀ x ∈ items, ∀ K : D → Dst → Prop, (∀ δ', wipeD δ' vs = δ0 → K (f x) δ') → tg x δ0 fun δ => te NoE δ K) (fin : ∀ δ', wipeD δ' vs = δ0 → K (items.map f) δ') : lcL tg fYes te vs items [] δ K := by
  have key := lcP (tg := tg) (te := te) (vs := vs) (δ := δ) δ0 id f items (K := K) h0 len step fin
  rwa [List.map_id] at key
def rowB : D → Int → Bool
  | .lst xs, m => decide ((xs.length : Int) = m) && xs.all isIntD
  | .tup xs, m => decide ((xs.length : Int) = m) && xs.all isIntD
  | _, _ => false
def C_row : DC := fun ds n Q _ => ∃ (d : D) (m : Int), ds = [d, .int m] ∧ Fine d ∧ Q (.bl (rowB d m)) n
theorem c_row {ds : List D} (h : C_row ds n Q Ed) : m_is_row C_is_listed C_is_integer Ed (rtE Q) (startD N_is_row ds n) := by
  obtain ⟨d, m, rfl, h1, h2⟩ := h
  refine ⟨d, rfl, h1.ty, ?_⟩
  cases d
  case lst xs =>
    simp_all only [isSeqD]
    refine ⟨⟨(Lay.int (k := 0) _).ok, (Lay.int (k := 0) _).ok⟩, ?_⟩
    rw [eqv_int]
    simp only [rowB] at h2
    by_cases e : (xs.length : Int) = m
    · rw [decide_eq_true e] at h2 ⊢
      rw [Bool.true_and] at h2
      refine lcQ _ (fun x => D.bl (isIntD x)) xs rfl (by rw [sizeLine_eq]; have := h1.1; omega) (fun x hx K hK => ?_) fun δ' e2 => ?_
      · simp_all only []
        exact ⟨x, rfl, h1.2 x hx, hK _ rfl⟩
      · refine gAll_of isIntD xs ?_
        have hn : δ'.n = n := congrArg Dst.n e2
        subst hn
        exact h2
    · rw [decide_eq_false e] at h2 ⊢
      exact h2
  case tup xs =>
    simp_all only [isSeqD]
    refine ⟨⟨(Lay.int (k := 0) _).ok, (Lay.int (k := 0) _).ok⟩, ?_⟩
    rw [eqv_int]
    simp only [rowB] at h2
    by_cases e : (xs.length : Int) = m
    · rw [decide_eq_true e] at h2 ⊢
      rw [Bool.true_and] at h2
      refine lcQ _ (fun x => D.bl (isIntD x)) xs rfl (by rw [sizeLine_eq]; have := h1.1; omega) (fun x hx K hK => ?_) fun δ' e2 => ?_
      · simp_all only []
        exact ⟨x, rfl, h1.2 x hx, hK _ rfl⟩
      · refine gAll_of isIntD xs ?_
        have hn : δ'.n = n := congrArg Dst.n e2
        subst hn
        exact h2
    · rw [decide_eq_false e] at h2 ⊢
      exact h2
  all_goals exact h2
end L01
end
section
set_option maxRecDepth 100000
set_option maxHeartbeats 1000000
namespace L01
open PySem PySem.Spec PyProof.Rows L2 DS
local macro_rules
  | `(tactic| simp_all only [$ts,*]) => `(tactic| simp only [sRet, sIf, sSeq, sSet, sPar, sDrop, sNext, sNever, sAsg, sAsgW, sFor, fOp, fCall, fG, fH, fO, fUn, fChain, DS.fIf, tOp2, fTrue, fNot, fAnd, fOr, DS.gAnd, DS.gOr, DS.gNot, fTup, fLst, aCons, aNil, fOwn, fOwnK, fSeq, gC, DS.gName, hName, with1, with2, withs, Hd.get, startD, Dst.put, twSub, twSeq, twsCons, twsNil, twTg, tgName, tgSeqN, tgsCons, tgsNil, withO, withL, ownL, fYes, gRev, fRg1, fRg2, fLstRg, fTupRg, fR1, fR2,
  gAdd, DS.gSub, gMul, gMod, gNeg, gLt, gLe, gGt, gGe, gEq, gNe, gIx, gLen, gLst1, gTup1, gInt1, gAbs, gIsi, tyOf, tysOf, isT, gAppend, gExtend, gPop, gPopAt, fMt, fLc, fLc2, restore, wipeD, atI_0, atI_1,
  List.map_cons, List.map_nil, List.length_cons, List.length_nil, List.replicate_succ, List.replicate_zero, List.getElem?_cons_zero, List.getElem?_cons_succ, List.getElem?_nil, List.set_cons_zero, List.set_cons_succ, List.set_nil, List.nil_append, List.cons_append, List.append_nil, Nat.reduceAdd, Nat.reduceSub, $ts,*])
variable {Ed : EdT} {Q : D → Nat → Prop} {n : Nat}
/-- v tells a turning of many spots, row by row ns -/
def Turn (v : D) (many : Nat) (ns : List Int) : Prop := (v = .lst (intD ns) ∨ v = .tup (intD ns)) ∧ ns.Perm (idN many)
theorem Turn.len {v : D} {many : Nat} {ns : List Int} (h : Turn v many ns) : ns.length = many := by rw [h.2.length_eq]; simp [idN]
theorem Turn.fine {v : D} {many : Nat} {ns : List Int} (h : Turn v many ns) (hm : many ≤ 20) : Fine v := by
  have hl := h.len
  rcases h.1 with e | e <;> subst e <;> refine ⟨by simp [intD]; omega, fun x hx => ?_⟩ <;> (obtain ⟨i, _, rfl⟩ := List.mem_map.mp hx; rfl)
def C_is_turning : DC := fun ds n Q _ => ∃ (v : D) (many : Nat), ds = [v, .int many] ∧ Fine v ∧ many ≤ 20 ∧ ((∃ ns, Turn v many ns) → Q (.bl true) n) ∧ ((¬ ∃ ns, Turn v many ns) → Q (.bl false) n)
theorem c_is_turning {ds : List D} (h : C_is_turning ds n Q Ed) : m_is_turning C_row Ed (rtE Q) (startD N_is_turning ds n) := by
  obtain ⟨v, many, rfl, h1, hm, h2, h3⟩ := h
  refine ⟨v, (many : Int), rfl, h1, ?_⟩
  have main : ∀ ns : List Int, rowB v many = true → (v = .lst (intD ns) ∨ v = .tup (intD ns)) → ∀ ns' : List Int, ns'.Perm ns → ns'.Pairwise (· ≤ ·) → Q (.bl (decide (ns' = idN many))) n := fun ns hr hv ns' p s => by
    by_cases e : ns' = idN many
    · rw [decide_eq_true e]
      exact h2 ⟨ns, hv, (p.symm.trans (by rw [e]))⟩
    · rw [decide_eq_false e]
      refine h3 fun ⟨ms, hv2, p2⟩ => e ?_
      have em : ms = ns := by
        rcases hv with a | a <;> rcases hv2 with b | b <;> (rw [a] at b; first | (cases b; done) | (have := congrArg (fun z => match z with | D.lst q => intsD q | D.tup q => intsD q | _ => none) b; simp only [intsD_of] at this; exact (Option.some.inj this).symm))
      subst em
      exact sorted_eq (p.trans p2) s (upTo_sorted many)
  have tail : ∀ ns : List Int, rowB v many = true → (v = .lst (intD ns) ∨ v = .tup (intD ns)) → ∀ ns' : List Int, ns'.Perm ns → ns'.Pairwise (· ≤ ·) → RgOk 0 (many : Int) ∧ ((D.lst (ns'.map D.int)).ok = true ∧ (D.lst (rgD 0 (many : Int))).ok = true) ∧ Q (.bl ((D.lst (ns'.map D.int)).eqv (.lst (rgD 0 (many : Int))))) n := fun ns hr hv ns' p s => by
    rw [rgD_upTo, upTo_intD]
    refine ⟨rgOk20 hm, ⟨(Lay.lst (k := 0) (ints_lay 0 ns')).ok, (Lay.lst (k := 0) (ints_lay 0 _)).ok⟩, ?_⟩
    have e := eqv_lints ns' (idN many)
    simp only [intD] at e ⊢
    rw [e]
    exact main ns hr hv ns' p s
  cases hr : rowB v many with
  | false =>
    refine h3 fun ⟨ns, hv, p⟩ => ?_
    have hl : ns.length = many := by rw [p.length_eq]; simp [idN]
    rcases hv with e | e <;> subst e <;> simp [rowB, ints_all, intD, hl] at hr <;> exact absurd (ints_all ns) (by simpa [intD] using hr)
  | true =>
    have row : ∀ xs : List D, (v = .lst xs ∨ v = .tup xs) → ∃ ns, xs = intD ns := fun xs hv => by
      rcases hv with e | e <;> subst e <;> simp only [rowB, Bool.and_eq_true] at hr <;> exact all_ints hr.2
    cases v
    case lst xs =>
      obtain ⟨ns, rfl⟩ := row xs (.inl rfl)
      simp_all only [gSorted, intsD_of]
      intro ns' p s
      exact tail ns hr (.inl rfl) ns' p s
    case tup xs =>
      obtain ⟨ns, rfl⟩ := row xs (.inr rfl)
      simp_all only [gSorted, intsD_of]
      intro ns' p s
      exact tail ns hr (.inr rfl) ns' p s
    all_goals simp [rowB] at hr
/-- what is raised -/
def bad (c p : Str) : XD := ⟨c, ["part"], [.str p]⟩
def C_need_many : DC := fun ds n Q Ed => ∃ d : D, ds = [d, .str "many"] ∧ (tyOf d).isSome = true ∧ (withB d 1 20 = true → Q .non n) ∧ (withB d 1 20 = false → Ed (bad "BadNumber" "many") n)
theorem c_need_many {ds : List D} (h : C_need_many ds n Q Ed) : m_need_many C_within Ed (rtE Q) (startD N_need_many ds n) := by
  obtain ⟨d, rfl, h1, h2, h3⟩ := h
  simp_all only [m_need_many]
  refine ⟨d, 1, 20, rfl, h1, ?_⟩
  cases e : withB d 1 20 with
  | true => exact h2 e
  | false =>
    refine ⟨rfl, h3 e⟩
def C_still : DC := fun ds n Q Ed => ∃ d : D, ds = [d] ∧ (tyOf d).isSome = true ∧ (∀ many : Nat, d = .int many → 1 ≤ many → many ≤ 20 → Q (.tup (upTo many)) n) ∧ (withB d 1 20 = false → Ed (bad "BadNumber" "many") n)
theorem c_still {ds : List D} (h : C_still ds n Q Ed) : m_still C_still_of C_need_many Ed (rtE Q) (startD N_still ds n) := by
  obtain ⟨d, rfl, h1, h2, h3⟩ := h
  simp_all only [m_still]
  refine ⟨d, rfl, h1, fun e => ?_, h3⟩
  cases d <;> simp only [withB, Bool.and_eq_true, decide_eq_true_eq] at e <;> try (cases e; done)
  rename_i i
  obtain ⟨m, rfl⟩ := Int.eq_ofNat_of_zero_le (show 0 ≤ i by omega)
  exact ⟨m, rfl, by omega, h2 m rfl (by omega) (by omega)⟩
def C_need_turning : DC := fun ds n Q Ed => ∃ (v : D) (many : Nat) (p : Str), ds = [v, .int many, .str p] ∧ Fine v ∧ many ≤ 20 ∧ (∀ ns, Turn v many ns → Q (.tup (intD ns)) n) ∧ ((¬ ∃ ns, Turn v many ns) → Ed (bad "BadTurning" p) n)
theorem c_need_turning {ds : List D} (h : C_need_turning ds n Q Ed) : m_need_turning C_is_turning Ed (rtE Q) (startD N_need_turning ds n) := by
  obtain ⟨v, many, p, rfl, h1, hm, h2, h3⟩ := h
  simp_all only [m_need_turning]
  refine ⟨v, many, rfl, h1, hm, fun ⟨ns, t⟩ => ?_, fun no => ⟨rfl, h3 no⟩⟩
  have q := h2 ns t
  rcases t.1 with e | e <;> subst e <;> (simp_all only []; exact q)
def C_length : DC := fun ds n Q _ => ∃ v : D, ds = [v] ∧ Fine v ∧ (∀ (many : Nat) (ns : List Int), 1 ≤ many → many ≤ 20 → Turn v many ns → Q (.int many) n) ∧ ((¬ ∃ (many : Nat) (ns : List Int), 1 ≤ many ∧ many ≤ 20 ∧ Turn v many ns) → Q .non n)
theorem c_length {ds : List D} (h : C_length ds n Q Ed) : m_length_of C_is_turning Ed (rtE Q) (startD N_length_of ds n) := by
  obtain ⟨v, rfl, h1, h2, h3⟩ := h
  have seq : ∀ xs : List D, (v = .lst xs ∨ v = .tup xs) → (1 ≤ (xs.length : Int) → (xs.length : Int) ≤ 20 → C_is_turning [v, .int xs.length] n (fun d n' => match d with
      | .bl true => Q (.int xs.length) n'
      | .bl false => Q .non n'
      | _ => False) Ed) ∧ (¬ (1 ≤ (xs.length : Int) ∧ (xs.length : Int) ≤ 20) → Q .non n) := fun xs hv => by
    have at_ : ∀ (many : Nat) (ns : List Int), Turn v many ns → xs.length = many := fun many ns t => by
      have hl := t.len
      rcases hv with a | a <;> rcases t.1 with b | b <;> rw [a] at b <;> first | (cases b; done) | (cases b; simpa [intD] using hl)
    refine ⟨fun l1 l2 => ⟨v, xs.length, rfl, h1, by omega, fun ⟨ns, t⟩ => h2 _ ns (by omega) (by omega) t, fun no => h3 fun ⟨many, ns, _, _, t⟩ => no ⟨ns, by rw [at_ many ns t]; exact t⟩⟩, fun no => h3 fun ⟨many, ns, m1, m2, t⟩ => no ?_⟩
    have := at_ many ns t
    omega
  cases v
  case lst xs =>
    obtain ⟨s1, s2⟩ := seq xs (.inl rfl)
    simp_all only [m_length_of, tChain2]
    refine ⟨by rw [sizeLine_eq]; omega, ?_⟩
    by_cases l1 : 1 ≤ (xs.length : Int)
    · by_cases l2 : (xs.length : Int) ≤ 20
      · rw [decide_eq_true l1, decide_eq_true l2]
        obtain ⟨v', m', e, f, hm, a, b⟩ := s1 l1 l2
        exact ⟨v', m', e, f, hm, fun t => a t, fun t => b t⟩
      · rw [decide_eq_true l1, decide_eq_false l2]
        exact s2 fun z => l2 z.2
    · rw [decide_eq_false l1]
      exact s2 fun z => l1 z.1
  case tup xs =>
    obtain ⟨s1, s2⟩ := seq xs (.inr rfl)
    simp_all only [m_length_of, tChain2]
    refine ⟨by rw [sizeLine_eq]; omega, ?_⟩
    by_cases l1 : 1 ≤ (xs.length : Int)
    · by_cases l2 : (xs.length : Int) ≤ 20
      · rw [decide_eq_true l1, decide_eq_true l2]
        obtain ⟨v', m', e, f, hm, a, b⟩ := s1 l1 l2
        exact ⟨v', m', e, f, hm, fun t => a t, fun t => b t⟩
      · rw [decide_eq_true l1, decide_eq_false l2]
        exact s2 fun z => l2 z.2
    · rw [decide_eq_false l1]
      exact s2 fun z => l1 z.1
  all_goals
    first
    | (simp [Fine, tyOf] at h1; done)
    | exact ⟨by rw [sizeLine_eq]; decide, h3 fun ⟨_, _, _, _, t⟩ => by rcases t.1 with e | e <;> cases e⟩
/-- the pair: both told rightly, or what is raised -/
def C_need_pair : DC := fun ds n Q Ed => ∃ v u : D, ds = [v, u] ∧ Fine v ∧ Fine u ∧ (∀ (many : Nat) (ns ms : List Int), 1 ≤ many → many ≤ 20 → Turn v many ns → Turn u many ms → Q (.tup [.tup (intD ns), .tup (intD ms)]) n) ∧
  ((¬ ∃ (many : Nat) (ns : List Int), 1 ≤ many ∧ many ≤ 20 ∧ Turn v many ns) → Ed (bad "BadTurning" "one") n) ∧ (∀ (many : Nat) (ns : List Int), 1 ≤ many → many ≤ 20 → Turn v many ns → (¬ ∃ ms, Turn u many ms) → Ed (bad "BadTurning" "other") n)
theorem c_need_pair {ds : List D} (h : C_need_pair ds n Q Ed) : m_need_pair C_need_turning C_length Ed (rtE Q) (startD N_need_pair ds n) := by
  obtain ⟨v, u, rfl, h1, h2, h3, h4, h5⟩ := h
  simp_all only [m_need_pair]
  refine ⟨v, rfl, h1, fun many ns m1 m2 t => ?_, fun no => ?_⟩
  · simp_all only [gIs, isNonD]
    have fin : ∀ d : D, gTup1 [d] (fun r => C_need_turning [u, .int many, .str "other"] n (fun e n' => 2 ≤ sizeLine ∧ Q (.tup [r.2, e]) n') Ed) → True := fun _ _ => trivial
    rcases t.1 with e | e <;> subst e <;> simp_all only [] <;>
      refine ⟨u, many, "other", rfl, h2, m2, fun ms tm => ⟨by rw [sizeLine_eq]; decide, h3 many ns ms m1 m2 t tm⟩, fun no => h5 many ns m1 m2 t no⟩
  · simp_all only [gIs, isNonD]
    exact ⟨rfl, h4 no⟩
def compI (ns ms : List Int) : List Int := ns.map fun i => ms.getD i.toNat 0
def C_then : DC := fun ds n Q _ => ∃ (many : Nat) (ns ms : List Int), ds = [.tup (intD ns), .tup (intD ms)] ∧ many ≤ 20 ∧ ns.Perm (idN many) ∧ ms.Perm (idN many) ∧ Q (.tup (intD (compI ns ms))) n
theorem perm_mem {ns : List Int} {many : Nat} (p : ns.Perm (idN many)) : ∀ i ∈ ns, ∃ j : Nat, j < many ∧ i = (j : Int) := fun i hi => by
  have := p.mem_iff.mp hi
  unfold idN at this
  obtain ⟨j, hj, rfl⟩ := List.mem_map.mp this
  exact ⟨j, List.mem_range.mp hj, rfl⟩
theorem perm_len {ns : List Int} {many : Nat} (p : ns.Perm (idN many)) : ns.length = many := by rw [p.length_eq]; simp [idN]
theorem c_then {ds : List D} (h : C_then ds n Q Ed) : m_then Ed (rtE Q) (startD N_then ds n) := by
  obtain ⟨many, ns, ms, rfl, hm, p1, p2, h2⟩ := h
  simp_all only [m_then]
  refine lcP _ D.int (fun i => D.int (ms.getD i.toNat 0)) ns rfl (sz20 (by rw [perm_len p1]; exact hm)) (fun i hi K hK => ?_) fun δ' e => ?_
  · obtain ⟨j, hj, rfl⟩ := perm_mem p1 i hi
    have hl := perm_len p2
    simp_all only [intD, atI_map D.int ms j (by omega)]
    have ej : ms[j]'(by omega) = ms.getD ((j : Int)).toNat 0 := by simp only [Int.toNat_natCast, List.getD_eq_getElem?_getD, List.getElem?_eq_getElem (show j < ms.length by omega), Option.getD_some]
    rw [ej]
    exact hK _ rfl
  · have hn : δ'.n = n := congrArg Dst.n e
    subst hn
    unfold compI intD at h2
    rw [List.map_map] at h2
    exact h2
def C_product : DC := fun ds n Q Ed => ∃ v u : D, ds = [v, u] ∧ Fine v ∧ Fine u ∧ (∀ (many : Nat) (ns ms : List Int), 1 ≤ many → many ≤ 20 → Turn v many ns → Turn u many ms → Q (.tup (intD (compI ns ms))) n) ∧
  ((¬ ∃ (many : Nat) (ns : List Int), 1 ≤ many ∧ many ≤ 20 ∧ Turn v many ns) → Ed (bad "BadTurning" "one") n) ∧ (∀ (many : Nat) (ns : List Int), 1 ≤ many → many ≤ 20 → Turn v many ns → (¬ ∃ ms, Turn u many ms) → Ed (bad "BadTurning" "other") n)
theorem c_product {ds : List D} (h : C_product ds n Q Ed) : m_product C_then C_need_pair Ed (rtE Q) (startD N_product ds n) := by
  obtain ⟨v, u, rfl, h1, h2, h3, h4, h5⟩ := h
  simp_all only [m_product]
  refine ⟨v, u, rfl, h1, h2, fun many ns ms m1 m2 t tm => ?_, h4, h5⟩
  simp_all only []
  exact ⟨trivial, many, ns, ms, rfl, m2, t.2, tm.2, h3 many ns ms m1 m2 t tm⟩
end L01
end
section
set_option maxRecDepth 100000
set_option maxHeartbeats 1000000
namespace L01
open PySem PySem.Spec PyProof.Rows L2 DS
local macro_rules
  | `(tactic| simp_all only [$ts,*]) => `(tactic| simp only [sRet, sIf, sSeq, sSet, sPar, sDrop, sNext, sNever, sAsg, sAsgW, sFor, fOp, fCall, fG, fH, fO, fUn, fChain, DS.fIf, tOp2, fTrue, fNot, fAnd, fOr, DS.gAnd, DS.gOr, DS.gNot, fTup, fLst, aCons, aNil, fOwn, fOwnK, fSeq, gC, DS.gName, hName, with1, with2, withs, Hd.get, startD, Dst.put, twSub, twSeq, twsCons, twsNil, twTg, tgName, tgSeqN, tgsCons, tgsNil, withO, withL, ownL, fYes, gRev, fRg1, fRg2, fLstRg, fTupRg, fR1, fR2,
  gAdd, DS.gSub, gMul, gMod, gNeg, gLt, gLe, gGt, gGe, gEq, gNe, gIx, gLen, gLst1, gTup1, gInt1, gAbs, gIsi, tyOf, tysOf, isT, gAppend, gExtend, gPop, gPopAt, fMt, fLc, fLc2, restore, wipeD, atI_0, atI_1,
  List.map_cons, List.map_nil, List.length_cons, List.length_nil, List.replicate_succ, List.replicate_zero, List.getElem?_cons_zero, List.getElem?_cons_succ, List.getElem?_nil, List.set_cons_zero, List.set_cons_succ, List.set_nil, List.nil_append, List.cons_append, List.append_nil, Nat.reduceAdd, Nat.reduceSub, $ts,*])
variable {Ed : EdT} {Q : D → Nat → Prop} {n : Nat}
def invI (many : Nat) (ns : List Int) : List Int := (List.range many).map fun i : Nat => ((ns.idxOf (i : Int) : Nat) : Int)
def C_lback : DC := fun ds n Q _ => ∃ (many : Nat) (ns : List Int), ds = [.tup (intD ns)] ∧ many ≤ 20 ∧ ns.Perm (idN many) ∧ Q (.tup (intD (invI many ns))) n
theorem perm_has {ns : List Int} {many : Nat} (p : ns.Perm (idN many)) {i : Nat} (h : i < many) : (i : Int) ∈ ns := p.mem_iff.mpr (by unfold idN; exact List.mem_map.mpr ⟨i, List.mem_range.mpr h, rfl⟩)
theorem perm_nodup {ns : List Int} {many : Nat} (p : ns.Perm (idN many)) : ns.Nodup := by
  refine p.nodup_iff.mpr ?_
  unfold idN
  exact List.Pairwise.map _ (fun a b h e => h (by omega)) List.nodup_range
theorem intD_len (ns : List Int) : (intD ns).length = ns.length := by simp [intD]
theorem c_lback {ds : List D} (h : C_lback ds n Q Ed) : m__law_back Ed (rtE Q) (startD N__law_back ds n) := by
  obtain ⟨many, ns, rfl, hm, p, h2⟩ := h
  have hl := perm_len p
  simp_all only [m__law_back]
  refine ⟨⟨by rw [intD_len]; omega, by rw [intD_len]; omega⟩, ?_⟩
  rw [rgD_0 many _ (by rw [intD_len, hl])]
  refine lcP _ (fun i : Nat => D.int (i : Nat)) (fun i : Nat => D.int ((ns.idxOf (i : Int) : Nat) : Int)) (List.range many) rfl (sz20 (by simp; exact hm)) (fun i hi K hK => ?_) fun δ' e => ?_
  · simp_all only [fMrU, isTupD, gIndexT, intsD_of]
    exact ⟨trivial, perm_has p (List.mem_range.mp hi), hK _ rfl⟩
  · have hn : δ'.n = n := congrArg Dst.n e
    subst hn
    unfold invI intD at h2
    rw [List.map_map] at h2
    exact h2
/-- what is written into the row, one behind another -/
def fs (f : List Int) (ps : List (Int × Nat)) : List Int := ps.foldl (fun f p => f.set p.1.toNat (p.2 : Nat)) f
theorem fs_len : ∀ (ps : List (Int × Nat)) (f : List Int), (fs f ps).length = f.length
  | [], _ => rfl
  | p :: ps, f => by
    have := fs_len ps (f.set p.1.toNat (p.2 : Nat))
    unfold fs at this ⊢
    rw [List.foldl_cons, this, List.length_set]
theorem fs_app (f : List Int) (ps qs : List (Int × Nat)) : fs f (ps ++ qs) = fs (fs f ps) qs := by unfold fs; rw [List.foldl_append]
theorem fs_out : ∀ (ps : List (Int × Nat)) (f : List Int) (k : Nat), (∀ p ∈ ps, p.1.toNat ≠ k) → (fs f ps)[k]? = f[k]?
  | [], _, _, _ => rfl
  | p :: ps, f, k, h => by
    have := fs_out ps (f.set p.1.toNat (p.2 : Nat)) k fun q hq => h q (List.mem_cons_of_mem _ hq)
    unfold fs at this ⊢
    rw [List.foldl_cons, this, List.getElem?_set_ne (h p List.mem_cons_self)]
def C_back_of : DC := fun ds n Q _ => ∃ (many : Nat) (ns : List Int), ds = [.tup (intD ns)] ∧ 1 ≤ many ∧ many ≤ 20 ∧ ns.Perm (idN many) ∧ Q (.tup (intD (invI many ns))) n
theorem zipIdx_split {ns : List Int} {j : Nat} (h : j < ns.length) : ∃ l r, ns.zipIdx = l ++ (ns[j], j) :: r ∧ (∀ p ∈ r, ∃ k, j < k ∧ ∃ h : k < ns.length, p = (ns[k], k)) := by
  have hz : ns.zipIdx.length = ns.length := by simp
  have hj : j < ns.zipIdx.length := by omega
  refine ⟨ns.zipIdx.take j, ns.zipIdx.drop (j + 1), ?_, fun p hp => ?_⟩
  · have e : ns.zipIdx[j] = (ns[j], j) := by simp
    rw [← e, ← List.drop_eq_getElem_cons hj, List.take_append_drop]
  · obtain ⟨i, hi, e⟩ := List.mem_iff_getElem.mp hp
    rw [List.getElem_drop] at e
    have hk : j + 1 + i < ns.length := by
      have := hi
      simp at this
      omega
    refine ⟨j + 1 + i, by omega, hk, ?_⟩
    rw [← e]
    simp
theorem fs_inv {ns : List Int} {many : Nat} (p : ns.Perm (idN many)) : fs (List.replicate many 0) ns.zipIdx = invI many ns := by
  have hl := perm_len p
  refine List.ext_getElem? fun k => ?_
  by_cases hk : k < many
  · have hin := perm_has p hk
    have hj : ns.idxOf (k : Int) < ns.length := List.idxOf_lt_length_iff.mpr hin
    obtain ⟨l, r, e, hr⟩ := zipIdx_split hj
    have ek : ns[ns.idxOf (k : Int)] = (k : Int) := List.getElem_idxOf hj
    have nd := perm_nodup p
    rw [e, fs_app]
    show (fs (fs (List.replicate many 0) l) ([(ns[ns.idxOf (k : Int)], ns.idxOf (k : Int))] ++ r))[k]? = _
    rw [fs_app, fs_out r _ k ?_]
    · unfold fs
      rw [List.foldl_cons, List.foldl_nil, ek]
      have hlen := fs_len l (List.replicate many 0)
      unfold fs at hlen
      rw [List.length_replicate] at hlen
      rw [show ((k : Int)).toNat = k by simp, List.getElem?_set_self (by rw [hlen]; exact hk)]
      unfold invI
      rw [List.getElem?_map, List.getElem?_range hk]
      rfl
    · intro q hq z
      obtain ⟨m, h1, h2, rfl⟩ := hr q hq
      obtain ⟨i, hi, ei⟩ := perm_mem p (ns[m]) (List.getElem_mem h2)
      have : ns[m] = (k : Int) := by
        dsimp only at z
        rw [ei] at z ⊢
        simp at z
        rw [z]
      exact List.pairwise_iff_getElem.mp nd _ _ hj h2 h1 (by rw [this, ek])
  · rw [List.getElem?_eq_none (by rw [fs_len]; simp; omega), List.getElem?_eq_none (by unfold invI; simp; omega)]
theorem enumD_ints (ns : List Int) : enumD (intD ns) = ns.zipIdx.map fun p => .par [.int (p.2 : Nat), .int p.1] := by
  refine List.ext_getElem? fun i => ?_
  unfold enumD
  rw [List.getElem?_zipWith]
  by_cases h : i < ns.length
  · have h1 : i < (intD ns).length := by rw [intD_len]; exact h
    rw [List.getElem?_range h1, List.getElem?_eq_getElem h1]
    simp [intD, h]
  · rw [List.getElem?_eq_none (by rw [List.length_range, intD_len]; omega), List.getElem?_eq_none (by rw [intD_len]; omega), List.getElem?_eq_none (by rw [List.length_map, List.length_zipIdx]; omega)]
theorem c_back_of {ds : List D} (h : C_back_of ds n Q Ed) : m_back_of Ed (rtE Q) (startD N_back_of ds n) := by
  obtain ⟨many, ns, rfl, hm1, hm, p, h2⟩ := h
  have hl := perm_len p
  simp_all only [m_back_of, fEnum]
  refine ⟨by rw [sizeLine_eq]; decide, ⟨by omega, by rw [intD_len]; omega, by rw [intD_len, sizeLine_eq, hl]; simp; omega⟩, ?_⟩
  rw [enumD_ints]
  have e0 : (List.replicate ((intD ns).length : Int).toNat [D.int 0]).flatten = intD (List.replicate many 0) := by
    rw [intD_len, hl]
    simp [intD, List.map_replicate]
  rw [e0]
  refine forP (fun p : Int × Nat => D.par [.int (p.2 : Nat), .int p.1]) ns.zipIdx (fun pre δ => ∃ (o1 o2 : Option (Bool × D)), δ = ⟨[some (false, .tup (intD ns)), some (true, .lst (intD (fs (List.replicate many 0) pre))), o1, o2], n⟩) ?_ ?_ ⟨none, none, rfl⟩
  · rintro pre ⟨g, i⟩ post δ K e ⟨o1, o2, rfl⟩ hK
    have hg : g ∈ ns := by
      have : (g, i) ∈ ns.zipIdx := by rw [e]; simp
      have := List.fst_mem_of_mem_zipIdx this
      exact this
    obtain ⟨j, hj, rfl⟩ := perm_mem p g hg
    simp_all only []
    refine ⟨trivial, ?_⟩
    have hix : L2.ixN (intD (fs (List.replicate many 0) pre)).length (j : Int) = some j := ixN_n (by rw [intD_len, fs_len]; simp; exact hj)
    simp only [gPut, hix]
    have step : fs (List.replicate many 0) (pre ++ [((j : Int), i)]) = (fs (List.replicate many 0) pre).set j (i : Int) := by
      rw [fs_app]
      show (fs (List.replicate many 0) pre).set ((j : Int)).toNat (i : Int) = _
      rw [show ((j : Int)).toNat = j by simp]
    refine hK _ ⟨some (false, .int (i : Nat)), some (false, .int (j : Nat)), ?_⟩
    rw [step, intD_set]
  · rintro δ ⟨o1, o2, rfl⟩
    rw [fs_inv p]
    simp_all only []
    exact h2
def C_backward : DC := fun ds n Q Ed => ∃ v : D, ds = [v] ∧ Fine v ∧ (∀ (many : Nat) (ns : List Int), 1 ≤ many → many ≤ 20 → Turn v many ns → Q (.tup (intD (invI many ns))) n) ∧ ((¬ ∃ (many : Nat) (ns : List Int), 1 ≤ many ∧ many ≤ 20 ∧ Turn v many ns) → Ed (bad "BadTurning" "one") n)
theorem c_backward {ds : List D} (h : C_backward ds n Q Ed) : m_backward C_back_of C_length Ed (rtE Q) (startD N_backward ds n) := by
  obtain ⟨v, rfl, h1, h2, h3⟩ := h
  simp_all only [m_backward]
  refine ⟨v, rfl, h1, fun many ns m1 m2 t => ?_, fun no => ?_⟩
  · simp_all only [gIs, isNonD]
    rcases t.1 with e | e <;> subst e <;> exact ⟨many, ns, rfl, m1, m2, t.2, h2 many ns m1 m2 t⟩
  · simp_all only [gIs, isNonD]
    exact ⟨rfl, h3 no⟩
end L01
end
section
set_option maxRecDepth 100000
set_option maxHeartbeats 1000000
namespace L01
open PySem PySem.Spec PyProof.Rows L2 DS
local macro_rules
  | `(tactic| simp_all only [$ts,*]) => `(tactic| simp only [sRet, sIf, sSeq, sSet, sPar, sDrop, sNext, sNever, sAsg, sAsgW, sFor, fOp, fCall, fG, fH, fO, fUn, fChain, DS.fIf, tOp2, fTrue, fNot, fAnd, fOr, DS.gAnd, DS.gOr, DS.gNot, fTup, fLst, aCons, aNil, fOwn, fOwnK, fSeq, gC, DS.gName, hName, with1, with2, withs, Hd.get, startD, Dst.put, twSub, twSeq, twsCons, twsNil, twTg, tgName, tgSeqN, tgsCons, tgsNil, withO, withL, ownL, fYes, gRev, fRg1, fRg2, fLstRg, fTupRg, fR1, fR2,
  gAdd, DS.gSub, gMul, gMod, gNeg, gLt, gLe, gGt, gGe, gEq, gNe, gIx, gLen, gLst1, gTup1, gInt1, gAbs, gIsi, tyOf, tysOf, isT, gAppend, gExtend, gPop, gPopAt, fMt, fLc, fLc2, restore, wipeD, atI_0, atI_1,
  List.map_cons, List.map_nil, List.length_cons, List.length_nil, List.replicate_succ, List.replicate_zero, List.getElem?_cons_zero, List.getElem?_cons_succ, List.getElem?_nil, List.set_cons_zero, List.set_cons_succ, List.set_nil, List.nil_append, List.cons_append, List.append_nil, Nat.reduceAdd, Nat.reduceSub, $ts,*])
variable {Ed : EdT} {Q : D → Nat → Prop} {n : Nat}
/-- a round: from here on, till what was seen -/
def go (ns : List Int) : Nat → List Int → List Int → Int → List Int × List Int
  | 0, seen, row, _ => (row, seen)
  | f + 1, seen, row, here => if here ∈ seen then (row, seen) else go ns f (seen ++ [here]) (row ++ [here]) (ns.getD here.toNat 0)
def rnd (ns : List Int) (st : List (List Int) × List Int) (spot : Int) : List (List Int) × List Int :=
  if spot ∈ st.2 then st else let r := go ns ns.length st.2 [] spot; (st.1 ++ [r.1], r.2)
def rndI (ns : List Int) : List (List Int) := ((idN ns.length).foldl (rnd ns) ([], [])).1
def rowsT (rs : List (List Int)) : List D := rs.map fun r => .tup (intD r)
/-- what was seen -/
structure Seen (many : Nat) (seen : List Int) : Prop where
  nd : seen.Nodup
  rg : ∀ x ∈ seen, ∃ j : Nat, j < many ∧ x = (j : Int)
theorem len_sub : ∀ {l m : List Nat}, l.Nodup → (∀ x ∈ l, x ∈ m) → l.length ≤ m.length
  | [], _, _, _ => Nat.zero_le _
  | x :: l, m, nd, sub => by
    have hx := sub x List.mem_cons_self
    have nd' := List.nodup_cons.mp nd
    have := len_sub (l := l) (m := m.erase x) nd'.2 fun y hy => (List.mem_erase_of_ne (fun e => nd'.1 (by rw [← e]; exact hy))).mpr (sub y (List.mem_cons_of_mem _ hy))
    rw [List.length_erase_of_mem hx] at this
    have : 0 < m.length := List.length_pos_of_mem hx
    simp only [List.length_cons]
    omega
theorem Seen.few {many : Nat} {seen : List Int} (h : Seen many seen) : seen.length ≤ many := by
  have sub : ∀ y ∈ seen.map Int.toNat, y ∈ List.range many := fun y hy => by
    obtain ⟨x, hx, rfl⟩ := List.mem_map.mp hy
    obtain ⟨j, hj, rfl⟩ := h.rg x hx
    simpa using hj
  have nd : (seen.map Int.toNat).Nodup := by
    refine List.pairwise_map.mpr ?_
    refine List.Pairwise.imp_of_mem ?_ h.nd
    intro a b ha hb hne e
    obtain ⟨j, _, rfl⟩ := h.rg a ha
    obtain ⟨k, _, rfl⟩ := h.rg b hb
    exact hne (by have : j = k := by simpa using e
                  rw [this])
  have := len_sub nd sub
  simpa using this
theorem Seen.add {many : Nat} {seen : List Int} (h : Seen many seen) {j : Nat} (hj : j < many) (hn : (j : Int) ∉ seen) : Seen many (seen ++ [(j : Int)]) := by
  refine ⟨?_, fun x hx => ?_⟩
  · rw [List.nodup_append]
    refine ⟨h.nd, by simp, fun a ha b hb e => ?_⟩
    rw [List.mem_singleton] at hb
    subst hb e
    exact hn ha
  · rcases List.mem_append.mp hx with z | z
    · exact h.rg x z
    · rw [List.mem_singleton] at z
      exact ⟨j, hj, z⟩
theorem Seen.more {many : Nat} {seen : List Int} (h : Seen many seen) {j : Nat} (hj : j < many) (hn : (j : Int) ∉ seen) : seen.length < many := by
  have := (h.add hj hn).few
  rw [List.length_append, List.length_singleton] at this
  omega
theorem stp_rg {ns : List Int} {many : Nat} (p : ns.Perm (idN many)) {j : Nat} (hj : j < many) : ∃ k : Nat, k < many ∧ ns.getD j 0 = (k : Int) := by
  have hl := perm_len p
  rw [List.getD_eq_getElem?_getD, List.getElem?_eq_getElem (show j < ns.length by omega), Option.getD_some]
  exact perm_mem p _ (List.getElem_mem _)
/-- the dict of what was seen -/
def keysI (seen : List Int) : List Key := seen.map fun i => .inl i
def trueD (seen : List Int) : List D := seen.map fun _ => .bl true
theorem getD_seen (i : Int) : ∀ seen : List Int, (DS.getD (keysI seen) (trueD seen) (.inl i : Key)).isSome = decide (i ∈ seen)
  | [] => rfl
  | x :: r => by
    have ih := getD_seen i r
    unfold keysI trueD at ih ⊢
    simp only [List.map_cons, DS.getD]
    by_cases h : x = i
    · subst h; simp
    · rw [if_neg (by simpa using h), ih]
      simp [Ne.symm h]
theorem any_key {seen : List Int} {i : Int} (h : i ∉ seen) : ((keysI seen).any fun x => decide (x = (.inl i : Key))) = false := by
  rw [List.any_eq_false]
  intro x hx
  obtain ⟨y, hy, rfl⟩ := List.mem_map.mp hx
  simp
  intro e
  subst e
  exact h hy
theorem putK {seen : List Int} {i : Int} (h : i ∉ seen) : putKs (keysI seen) (.inl i) = keysI (seen ++ [i]) := by
  unfold putKs
  rw [any_key h]
  simp [keysI]
theorem putV {seen : List Int} {i : Int} (h : i ∉ seen) : putDs (keysI seen) (trueD seen) (.inl i : Key) (.bl true) = trueD (seen ++ [i]) := by
  unfold putDs
  rw [any_key h]
  simp [trueD]
def C_rounds_of : DC := fun ds n Q _ => ∃ (many : Nat) (ns : List Int), ds = [.tup (intD ns)] ∧ many ≤ 20 ∧ ns.Perm (idN many) ∧ Q (.tup (rowsT (rndI ns))) n
end L01
end
section
set_option maxRecDepth 100000
set_option maxHeartbeats 1000000
namespace L01
open PySem PySem.Spec PyProof.Rows L2 DS
local macro_rules
  | `(tactic| simp_all only [$ts,*]) => `(tactic| simp only [sRet, sIf, sSeq, sSet, sPar, sDrop, sNext, sNever, sAsg, sAsgW, sFor, fOp, fCall, fG, fH, fO, fUn, fChain, DS.fIf, tOp2, fTrue, fNot, fAnd, fOr, DS.gAnd, DS.gOr, DS.gNot, fTup, fLst, aCons, aNil, fOwn, fOwnK, fSeq, gC, DS.gName, hName, with1, with2, withs, Hd.get, startD, Dst.put, twSub, twSeq, twsCons, twsNil, twTg, tgName, tgSeqN, tgsCons, tgsNil, withO, withL, ownL, fYes, gRev, fRg1, fRg2, fLstRg, fTupRg, fR1, fR2,
  gAdd, DS.gSub, gMul, gMod, gNeg, gLt, gLe, gGt, gGe, gEq, gNe, gIx, gLen, gLst1, gTup1, gInt1, gAbs, gIsi, tyOf, tysOf, isT, gAppend, gExtend, gPop, gPopAt, fMt, fLc, fLc2, restore, wipeD, atI_0, atI_1,
  List.map_cons, List.map_nil, List.length_cons, List.length_nil, List.replicate_succ, List.replicate_zero, List.getElem?_cons_zero, List.getElem?_cons_succ, List.getElem?_nil, List.set_cons_zero, List.set_cons_succ, List.set_nil, List.nil_append, List.cons_append, List.append_nil, Nat.reduceAdd, Nat.reduceSub, $ts,*])
variable {Ed : EdT} {Q : D → Nat → Prop} {n : Nat}
theorem go_step {ns : List Int} {f : Nat} {seen row : List Int} {here : Int} (h : here ∉ seen) : go ns (f + 1) seen row here = go ns f (seen ++ [here]) (row ++ [here]) (ns.getD here.toNat 0) := by
  show (if here ∈ seen then _ else _) = _
  rw [if_neg h]
theorem go_stop {ns : List Int} {f : Nat} {seen row : List Int} {here : Int} (h : here ∈ seen) : go ns f seen row here = (row, seen) := by
  cases f with
  | zero => rfl
  | succ f => show (if here ∈ seen then _ else _) = _; rw [if_pos h]
theorem go_seen {ns : List Int} {many : Nat} (p : ns.Perm (idN many)) : ∀ (f : Nat) (seen row : List Int) (here : Nat), here < many → Seen many seen → row.length ≤ seen.length → Seen many (go ns f seen row here).2 ∧ (go ns f seen row here).1.length ≤ (go ns f seen row here).2.length
  | 0, seen, row, here, _, h, hl => ⟨h, hl⟩
  | f + 1, seen, row, here, hh, h, hl => by
    by_cases z : (here : Int) ∈ seen
    · rw [go_stop z]; exact ⟨h, hl⟩
    · rw [go_step z]
      obtain ⟨k, hk, ek⟩ := stp_rg p hh
      rw [show ((here : Int)).toNat = here by simp, ek]
      exact go_seen p f _ _ k hk (h.add hh z) (by simp; omega)
theorem c_rounds_of {ds : List D} (h : C_rounds_of ds n Q Ed) : m_rounds_of Ed (rtE Q) (startD N_rounds_of ds n) := by
  obtain ⟨many, ns, rfl, hm, p, h2⟩ := h
  have hl := perm_len p
  simp_all only [m_rounds_of, fDk]
  refine ⟨by rw [sizeLine_eq]; decide, ⟨by rw [intD_len]; omega, by rw [intD_len]; omega⟩, ?_⟩
  rw [rgD_0 many _ (by rw [intD_len, hl])]
  refine forP (fun i : Nat => .int (i : Nat)) (List.range many) (fun pre δ => ∃ (o1 o4 o5 : Option (Bool × D)) (st : List (List Int) × List Int), st = (pre.map fun i : Nat => (i : Int)).foldl (rnd ns) ([], []) ∧
    δ = ⟨[some (false, .tup (intD ns)), o1, some (true, .lst (rowsT st.1)), some (true, .dk (keysI st.2) (trueD st.2)), o4, o5], n⟩ ∧ Seen many st.2 ∧ st.1.length ≤ pre.length) ?_ ?_ ⟨none, none, none, ([], []), rfl, rfl, ⟨by simp, by simp⟩, Nat.le_refl _⟩
  · rintro pre x post δ K e ⟨o1, o4, o5, st, est, rfl, sn, few⟩ hK
    have hx : x < many := by
      have : x ∈ List.range many := by rw [e]; simp
      exact List.mem_range.mp this
    have hpre : pre.length < many := by
      have := congrArg List.length e
      rw [List.length_range, List.length_append, List.length_cons] at this
      omega
    have next : ((pre ++ [x]).map fun i : Nat => (i : Int)).foldl (rnd ns) ([], []) = rnd ns st x := by rw [List.map_append, List.foldl_append, ← est]; rfl
    simp_all only [gIn, keyD, getD_seen]
    simp only [Bool.false_eq_true, if_false]
    by_cases z : (x : Int) ∈ st.2
    · rw [decide_eq_true z]
      simp_all only [sCont]
      exact hK _ ⟨some (false, .int x), o4, o5, st, by rw [next]; unfold rnd; rw [if_pos z], rfl, sn, by rw [List.length_append]; omega⟩
    · rw [decide_eq_false z]
      simp_all only [sWhile]
      refine ⟨by rw [sizeLine_eq]; decide, fun m δ => ∃ (seen row : List Int) (here : Nat), δ = ⟨[some (false, .tup (intD ns)), some (false, .int x), some (true, .lst (rowsT st.1)), some (true, .dk (keysI seen) (trueD seen)), some (true, .lst (intD row)), some (false, .int here)], n⟩ ∧
        here < many ∧ Seen many seen ∧ row.length ≤ seen.length ∧ go ns ns.length st.2 [] x = go ns (ns.length - row.length) seen row here ∧ m = many - seen.length, ⟨_, st.2, [], x, rfl, hx, sn, Nat.zero_le _, rfl, rfl⟩, ?_⟩
      rintro m δ ⟨seen, row, here, rfl, hh, sn2, rl, eg, rfl⟩
      simp_all only [gIn, keyD, getD_seen]
      simp only [if_true]
      by_cases z2 : (here : Int) ∈ seen
      · rw [decide_eq_true z2]
        rw [go_stop z2] at eg
        have gs := go_seen p ns.length st.2 [] x hx sn (Nat.zero_le _)
        rw [eg] at gs
        refine ⟨trivial, ?_, hK _ ⟨some (false, .int x), some (true, .lst (intD row)), some (false, .int here), (st.1 ++ [row], seen), ?_, ?_, sn2, ?_⟩⟩
        · unfold rowsT; rw [List.length_map, sizeLine_eq]; omega
        · rw [next]; unfold rnd; rw [if_neg z]; show _ = ((st.1 ++ [(go ns ns.length st.2 [] (x : Int)).1], (go ns ns.length st.2 [] (x : Int)).2) : List (List Int) × List Int); rw [eg]
        · simp [rowsT]
        · simp only [List.length_append, List.length_singleton]; omega
      · rw [decide_eq_false z2]
        simp only [Bool.not_false, gPut, keyD]
        have more := sn2.more hh z2
        have rl2 : row.length < ns.length := by omega
        obtain ⟨k, hk, ek⟩ := stp_rg p hh
        have ea : L2.atI (intD ns) (here : Int) = some (.int (k : Nat)) := by
          unfold intD
          rw [atI_map D.int ns here (by omega), ← ek, List.getD_eq_getElem?_getD, List.getElem?_eq_getElem (show here < ns.length by omega), Option.getD_some]
        rw [putK z2, putV z2, ea]
        refine ⟨by unfold keysI; rw [List.length_map, sizeLine_eq]; omega, trivial, by rw [intD_len, sizeLine_eq]; omega, many - (seen.length + 1), by omega, seen ++ [(here : Int)], row ++ [(here : Int)], k, ?_, hk, sn2.add hh z2, by simp only [List.length_append, List.length_singleton]; omega, ?_, by simp only [List.length_append, List.length_singleton]⟩
        · simp [intD]
        · rw [eg, show ns.length - row.length = (ns.length - (row ++ [(here : Int)]).length) + 1 by simp only [List.length_append, List.length_singleton]; omega, go_step z2, show ((here : Int)).toNat = here by simp, ek]
  · rintro δ ⟨o1, o4, o5, st, est, rfl, sn, few⟩
    simp_all only []
    have : rndI ns = st.1 := by unfold rndI idN; rw [hl, ← est]
    rw [this] at h2
    exact h2
end L01
end
section
set_option maxRecDepth 100000
set_option maxHeartbeats 1000000
namespace L01
open PySem PySem.Spec PyProof.Rows L2 DS
local macro_rules
  | `(tactic| simp_all only [$ts,*]) => `(tactic| simp only [sRet, sIf, sSeq, sSet, sPar, sDrop, sNext, sNever, sAsg, sAsgW, sFor, fOp, fCall, fG, fH, fO, fUn, fChain, DS.fIf, tOp2, fTrue, fNot, fAnd, fOr, DS.gAnd, DS.gOr, DS.gNot, fTup, fLst, aCons, aNil, fOwn, fOwnK, fSeq, gC, DS.gName, hName, with1, with2, withs, Hd.get, startD, Dst.put, twSub, twSeq, twsCons, twsNil, twTg, tgName, tgSeqN, tgsCons, tgsNil, withO, withL, ownL, fYes, gRev, fRg1, fRg2, fLstRg, fTupRg, fR1, fR2,
  gAdd, DS.gSub, gMul, gMod, gNeg, gLt, gLe, gGt, gGe, gEq, gNe, gIx, gLen, gLst1, gTup1, gInt1, gAbs, gIsi, tyOf, tysOf, isT, gAppend, gExtend, gPop, gPopAt, fMt, fLc, fLc2, restore, wipeD, atI_0, atI_1,
  List.map_cons, List.map_nil, List.length_cons, List.length_nil, List.replicate_succ, List.replicate_zero, List.getElem?_cons_zero, List.getElem?_cons_succ, List.getElem?_nil, List.set_cons_zero, List.set_cons_succ, List.set_nil, List.nil_append, List.cons_append, List.append_nil, Nat.reduceAdd, Nat.reduceSub, $ts,*])
variable {Ed : EdT} {Q : D → Nat → Prop} {n : Nat}
def C_rounds : DC := fun ds n Q Ed => ∃ v : D, ds = [v] ∧ Fine v ∧ (∀ (many : Nat) (ns : List Int), 1 ≤ many → many ≤ 20 → Turn v many ns → Q (.tup (rowsT (rndI ns))) n) ∧ ((¬ ∃ (many : Nat) (ns : List Int), 1 ≤ many ∧ many ≤ 20 ∧ Turn v many ns) → Ed (bad "BadTurning" "one") n)
theorem c_rounds {ds : List D} (h : C_rounds ds n Q Ed) : m_rounds C_rounds_of C_length Ed (rtE Q) (startD N_rounds ds n) := by
  obtain ⟨v, rfl, h1, h2, h3⟩ := h
  simp_all only [m_rounds]
  refine ⟨v, rfl, h1, fun many ns m1 m2 t => ?_, fun no => ?_⟩
  · simp_all only [gIs, isNonD]
    rcases t.1 with e | e <;> subst e <;> exact ⟨many, ns, rfl, m2, t.2, h2 many ns m1 m2 t⟩
  · simp_all only [gIs, isNonD]
    exact ⟨rfl, h3 no⟩
theorem any_ints (seen : List Int) (i : Int) : ((intD seen).any fun z => z.eqv (.int i)) = decide (i ∈ seen) := by
  induction seen with
  | nil => rfl
  | cons x r ih =>
    unfold intD at ih ⊢
    rw [List.map_cons, List.any_cons, ih, eqv_int]
    by_cases h : x = i
    · subst h; simp
    · simp [h, Ne.symm h]
/-- the law's own rounds: the same -/
def C_lrounds : DC := fun ds n Q _ => ∃ (many : Nat) (ns : List Int), ds = [.tup (intD ns)] ∧ many ≤ 20 ∧ ns.Perm (idN many) ∧ Q (.tup (rowsT (rndI ns))) n
theorem go_grow (ns : List Int) : ∀ (f : Nat) (seen row : List Int) (here : Int), row.length ≤ (go ns f seen row here).1.length
  | 0, _, _, _ => Nat.le_refl _
  | f + 1, seen, row, here => by
    by_cases z : here ∈ seen
    · rw [go_stop z]; exact Nat.le_refl _
    · rw [go_step z]
      have := go_grow ns f (seen ++ [here]) (row ++ [here]) (ns.getD here.toNat 0)
      simp only [List.length_append, List.length_singleton] at this
      omega
theorem c_lrounds {ds : List D} (h : C_lrounds ds n Q Ed) : m__law_rounds Ed (rtE Q) (startD N__law_rounds ds n) := by
  obtain ⟨many, ns, rfl, hm, p, h2⟩ := h
  have hl := perm_len p
  simp_all only [m__law_rounds]
  refine ⟨by rw [sizeLine_eq]; decide, by rw [sizeLine_eq]; decide, ⟨by rw [intD_len]; omega, by rw [intD_len]; omega⟩, ?_⟩
  rw [rgD_0 many _ (by rw [intD_len, hl])]
  refine forP (fun i : Nat => .int (i : Nat)) (List.range many) (fun pre δ => ∃ (o1 o4 o5 o6 : Option (Bool × D)) (st : List (List Int) × List Int), st = (pre.map fun i : Nat => (i : Int)).foldl (rnd ns) ([], []) ∧
    δ = ⟨[some (false, .tup (intD ns)), o1, some (true, .lst (rowsT st.1)), some (true, .lst (intD st.2)), o4, o5, o6], n⟩ ∧ Seen many st.2 ∧ st.1.length ≤ pre.length) ?_ ?_ ⟨none, none, none, none, ([], []), rfl, rfl, ⟨by simp, by simp⟩, Nat.le_refl _⟩
  · rintro pre x post δ K e ⟨o1, o4, o5, o6, st, est, rfl, sn, few⟩ hK
    have hx : x < many := by
      have : x ∈ List.range many := by rw [e]; simp
      exact List.mem_range.mp this
    have hpre : pre.length < many := by
      have := congrArg List.length e
      rw [List.length_range, List.length_append, List.length_cons] at this
      omega
    have next : ((pre ++ [x]).map fun i : Nat => (i : Int)).foldl (rnd ns) ([], []) = rnd ns st x := by rw [List.map_append, List.foldl_append, ← est]; rfl
    simp_all only []
    refine ⟨by rw [sizeLine_eq]; decide, ⟨by rw [intD_len]; omega, by rw [intD_len]; omega⟩, ?_⟩
    rw [rgD_0 many _ (by rw [intD_len, hl])]
    refine (show ∀ N : DEn, (∀ (seen row : List Int) (here : Nat) (o4 : Option (Bool × D)), go ns ns.length st.2 [] x = (row, seen) → Seen many seen → row.length ≤ seen.length →
      N.nx ⟨[some (false, .tup (intD ns)), some (false, .int x), some (true, .lst (rowsT st.1)), some (true, .lst (intD seen)), o4, some (true, .lst (intD row)), some (false, .int here)], n⟩) → forL _ _ N _ _ from fun N hN => ?_) _ ?_
    · refine forP (fun i : Nat => .int (i : Nat)) (List.range many) (fun pre δ => ∃ (seen row : List Int) (here : Nat) (o4 : Option (Bool × D)), δ = ⟨[some (false, .tup (intD ns)), some (false, .int x), some (true, .lst (rowsT st.1)), some (true, .lst (intD seen)), o4, some (true, .lst (intD row)), some (false, .int here)], n⟩ ∧
        here < many ∧ Seen many seen ∧ row.length ≤ seen.length ∧ row.length = pre.length ∧ go ns ns.length st.2 [] x = go ns (ns.length - row.length) seen row here) ?_ ?_ ⟨st.2, [], x, _, rfl, hx, sn, Nat.zero_le _, rfl, rfl⟩
      · rintro pre2 y post2 δ K2 e2 ⟨seen, row, here, o4', rfl, hh, sn2, rl, lp, eg⟩ hK2
        have hy : row.length < many := by
          have := congrArg List.length e2
          rw [List.length_range, List.length_append, List.length_cons] at this
          omega
        have few2 := sn2.few
        simp_all only [gIn]
        refine ⟨⟨(Lay.int (k := 0) _).ok, (Lay.lst (k := 0) (ints_lay 0 _)).ok⟩, ?_⟩
        rw [any_ints]
        simp only [Bool.false_eq_true, if_false]
        by_cases z : (here : Int) ∈ seen
        · rw [decide_eq_true z]
          simp_all only [sBreak]
          rw [go_stop z] at eg
          exact hN seen row here _ eg sn2 rl
        · rw [decide_eq_false z]
          obtain ⟨k, hk, ek⟩ := stp_rg p hh
          have ea : L2.atI (intD ns) (here : Int) = some (.int (k : Nat)) := by
            unfold intD
            rw [atI_map D.int ns here (by omega), ← ek, List.getD_eq_getElem?_getD, List.getElem?_eq_getElem (show here < ns.length by omega), Option.getD_some]
          have more := sn2.more hh z
          simp_all only [ea]
          refine ⟨trivial, by rw [intD_len, sizeLine_eq]; omega, by rw [sizeLine_eq]; decide, by rw [intD_len, sizeLine_eq]; omega, hK2 _ ⟨seen ++ [(here : Int)], row ++ [(here : Int)], k, some (false, .int y), ?_, hk, sn2.add hh z, by simp only [List.length_append, List.length_singleton]; omega, by simp only [List.length_append, List.length_singleton]; omega, ?_⟩⟩
          · simp [intD]
          · rw [eg, show ns.length - row.length = (ns.length - (row ++ [(here : Int)]).length) + 1 by simp only [List.length_append, List.length_singleton]; omega, go_step z, show ((here : Int)).toNat = here by simp, ek]
      · rintro δ ⟨seen, row, here, o4', rfl, hh, sn2, rl, lp, eg⟩
        rw [List.length_range] at lp
        rw [show ns.length - row.length = 0 by omega] at eg
        exact hN seen row here _ eg sn2 rl
    · intro seen row here o4' eg sn2 rl
      have few2 := sn2.few
      simp_all only []
      refine ⟨Nat.zero_le _, ⟨(Lay.lst (k := 0) (ints_lay 0 _)).ok, (Lay.lst (k := 0) (ints_lay 0 [])).ok⟩, ?_⟩
      rw [show (D.lst (intD row)).eqv (D.lst []) = decide (row = []) from eqv_lints row []]
      by_cases z : (x : Int) ∈ st.2
      · rw [go_stop z] at eg
        obtain ⟨rfl, rfl⟩ := Prod.mk.inj eg
        rw [decide_eq_true rfl]
        exact hK _ ⟨_, _, _, _, st, by rw [next]; unfold rnd; rw [if_pos z], rfl, sn, by rw [List.length_append]; omega⟩
      · have pos : row ≠ [] := fun z2 => by
          have e1 : ns.length = (ns.length - 1) + 1 := by omega
          have g := go_grow ns (ns.length - 1) (st.2 ++ [(x : Int)]) ([] ++ [(x : Int)]) (ns.getD ((x : Int)).toNat 0)
          rw [← go_step z, ← e1, eg, z2] at g
          simp at g
        rw [decide_eq_false pos]
        refine ⟨trivial, by unfold rowsT; rw [List.length_map, sizeLine_eq]; omega, hK _ ⟨_, _, _, _, (st.1 ++ [row], seen), ?_, by simp [rowsT]; exact ⟨rfl, rfl, rfl, rfl⟩, sn2, by simp only [List.length_append, List.length_singleton]; omega⟩⟩
        rw [next]
        unfold rnd
        rw [if_neg z]
        show _ = ((st.1 ++ [(go ns ns.length st.2 [] (x : Int)).1], (go ns ns.length st.2 [] (x : Int)).2) : List (List Int) × List Int)
        rw [eg]
  · rintro δ ⟨o1, o4, o5, o6, st, est, rfl, sn, few⟩
    simp_all only []
    have : rndI ns = st.1 := by unfold rndI idN; rw [hl, ← est]
    rw [this] at h2
    exact h2
end L01
end
section
set_option maxRecDepth 100000
set_option maxHeartbeats 4000000
namespace L01
open PySem PySem.Spec PyProof.Rows L2 DS
local macro_rules
  | `(tactic| simp_all only [$ts,*]) => `(tactic| simp only [sRet, sIf, sSeq, sSet, sPar, sDrop, sNext, sNever, sAsg, sAsgW, sFor, fOp, fCall, fG, fH, fO, fUn, fChain, DS.fIf, tOp2, fTrue, fNot, fAnd, fOr, DS.gAnd, DS.gOr, DS.gNot, fTup, fLst, aCons, aNil, fOwn, fOwnK, fSeq, gC, DS.gName, hName, with1, with2, withs, Hd.get, startD, Dst.put, twSub, twSeq, twsCons, twsNil, twTg, tgName, tgSeqN, tgsCons, tgsNil, withO, withL, ownL, fYes, gRev, fRg1, fRg2, fLstRg, fTupRg, fR1, fR2,
  gAdd, DS.gSub, gMul, gMod, gNeg, gLt, gLe, gGt, gGe, gEq, gNe, gIx, gLen, gLst1, gTup1, gInt1, gAbs, gIsi, tyOf, tysOf, isT, gAppend, gExtend, gPop, gPopAt, fMt, fLc, fLc2, restore, wipeD, atI_0, atI_1,
  List.map_cons, List.map_nil, List.length_cons, List.length_nil, List.replicate_succ, List.replicate_zero, List.getElem?_cons_zero, List.getElem?_cons_succ, List.getElem?_nil, List.set_cons_zero, List.set_cons_succ, List.set_nil, List.nil_append, List.cons_append, List.append_nil, Nat.reduceAdd, Nat.reduceSub, $ts,*])
variable {Ed : EdT} {Q : D → Nat → Prop} {n : Nat}
theorem heard_BadTurning {p : Str} (h : Q (.tup [.str "turning", .str p]) n) : m__law_heard NoE ⟨fun _ => False, Q, fun _ => False, fun _ => False⟩ (heardS 6 4 5 .non (.exc "BadTurning" ["part"] [.str p]) n) := by
  simp_all only [m__law_heard, heardS, gIs, isNonD, gIsx]
  refine ⟨by decide +kernel, by decide +kernel, ?_⟩
  rw [show (Str.ofString "BadTurning" == Str.ofString "TooMany") = false from by decide +kernel]
  simp only []
  refine ⟨by decide +kernel, by decide +kernel, ?_⟩
  rw [show (Str.ofString "BadTurning" == Str.ofString "BadText") = false from by decide +kernel]
  simp only []
  refine ⟨by rw [sizeLine_eq]; decide, by decide +kernel, ["BadCommand", "NoName"], by decide +kernel, ?_⟩
  rw [show (List.any [Str.ofString "BadCommand", Str.ofString "NoName"] fun C => Str.ofString "BadTurning" == C) = false from by decide +kernel]
  simp only []
  refine ⟨by rw [sizeLine_eq]; decide, ?_⟩
  refine ⟨by decide +kernel, by decide +kernel, ?_⟩
  refine ⟨by decide +kernel, by decide +kernel, ?_⟩
  refine ⟨by decide +kernel, by decide +kernel, ?_⟩
  refine ⟨by decide +kernel, by decide +kernel, ?_⟩
  refine ⟨by decide +kernel, by decide +kernel, ?_⟩
  refine ⟨by rw [sizeLine_eq]; decide, ?_⟩
  refine ⟨by decide +kernel, by decide +kernel, ?_⟩
  refine ⟨by decide +kernel, by decide +kernel, ?_⟩
  refine ⟨by decide +kernel, by decide +kernel, ?_⟩
  refine ⟨by decide +kernel, by decide +kernel, ?_⟩
  refine ⟨by decide +kernel, by decide +kernel, ?_⟩
  refine ⟨by rw [sizeLine_eq]; decide, by rw [sizeLine_eq]; decide, trivial, by decide +kernel, by decide +kernel, by rw [sizeLine_eq]; decide, ?_⟩
  simp only [show (Str.ofString "BadTurning" == Str.ofString "BadLot") = false from by decide +kernel, show (Str.ofString "BadTurning" == Str.ofString "BadTurning") = true from by decide +kernel, show (Str.ofString "BadTurning" == Str.ofString "BadNest") = false from by decide +kernel, show (Str.ofString "BadTurning" == Str.ofString "BadLabels") = false from by decide +kernel, show (Str.ofString "BadTurning" == Str.ofString "BadNumber") = false from by decide +kernel, show (Str.ofString "BadTurning" == Str.ofString "BadValue") = false from by decide +kernel, show (Str.ofString "BadTurning" == Str.ofString "BadWeb") = false from by decide +kernel, show (Str.ofString "BadTurning" == Str.ofString "BadPuzzle") = false from by decide +kernel, show (Str.ofString "BadTurning" == Str.ofString "BadPaper") = false from by decide +kernel, show (Str.ofString "BadTurning" == Str.ofString "Misfit") = false from by decide +kernel, show (Str.ofString "BadTurning" == Str.ofString "Nothing") = false from by decide +kernel]
  simp_all only [fMrT, recv, gCount]
  refine ⟨trivial, ⟨by decide +kernel, by decide +kernel⟩, ⟨(Lay.int (k := 0) _).ok, (Lay.int (k := 0) _).ok⟩, ?_⟩
  rw [show List.countP (fun z => D.eqv z (D.bl true)) [D.bl false, D.bl true, D.bl false, D.bl false, D.bl false, D.bl false, D.bl false, D.bl false, D.bl false, D.bl false, D.bl false] = 1 from by decide +kernel, eqv_int, show decide (((1 : Nat) : Int) = 1) = true from rfl]
  simp only [gIndex]
  refine ⟨trivial, ⟨by decide +kernel, by decide +kernel⟩, ?_⟩
  rw [show List.findIdx? (fun z => D.eqv z (D.bl true)) [D.bl false, D.bl true, D.bl false, D.bl false, D.bl false, D.bl false, D.bl false, D.bl false, D.bl false, D.bl false, D.bl false] = some 1 from by decide +kernel]
  simp only []
  rw [show L2.atI [D.str (Str.ofString "lot"), D.str (Str.ofString "turning"), D.str (Str.ofString "nest"), D.str (Str.ofString "labels"), D.str (Str.ofString "number"), D.str (Str.ofString "value"), D.str (Str.ofString "web"), D.str (Str.ofString "puzzle"), D.str (Str.ofString "paper"), D.str (Str.ofString "misfit"), D.str (Str.ofString "nothing")] ((1 : Nat) : Int) = some (.str "turning") from atI_nat _ 1 (by decide)]
  exact ⟨by decide +kernel, .str p, by rfl, by rw [sizeLine_eq]; decide, h⟩
theorem heard_BadNumber {p : Str} (h : Q (.tup [.str "number", .str p]) n) : m__law_heard NoE ⟨fun _ => False, Q, fun _ => False, fun _ => False⟩ (heardS 6 4 5 .non (.exc "BadNumber" ["part"] [.str p]) n) := by
  simp_all only [m__law_heard, heardS, gIs, isNonD, gIsx]
  refine ⟨by decide +kernel, by decide +kernel, ?_⟩
  rw [show (Str.ofString "BadNumber" == Str.ofString "TooMany") = false from by decide +kernel]
  simp only []
  refine ⟨by decide +kernel, by decide +kernel, ?_⟩
  rw [show (Str.ofString "BadNumber" == Str.ofString "BadText") = false from by decide +kernel]
  simp only []
  refine ⟨by rw [sizeLine_eq]; decide, by decide +kernel, ["BadCommand", "NoName"], by decide +kernel, ?_⟩
  rw [show (List.any [Str.ofString "BadCommand", Str.ofString "NoName"] fun C => Str.ofString "BadNumber" == C) = false from by decide +kernel]
  simp only []
  refine ⟨by rw [sizeLine_eq]; decide, ?_⟩
  refine ⟨by decide +kernel, by decide +kernel, ?_⟩
  refine ⟨by decide +kernel, by decide +kernel, ?_⟩
  refine ⟨by decide +kernel, by decide +kernel, ?_⟩
  refine ⟨by decide +kernel, by decide +kernel, ?_⟩
  refine ⟨by decide +kernel, by decide +kernel, ?_⟩
  refine ⟨by rw [sizeLine_eq]; decide, ?_⟩
  refine ⟨by decide +kernel, by decide +kernel, ?_⟩
  refine ⟨by decide +kernel, by decide +kernel, ?_⟩
  refine ⟨by decide +kernel, by decide +kernel, ?_⟩
  refine ⟨by decide +kernel, by decide +kernel, ?_⟩
  refine ⟨by decide +kernel, by decide +kernel, ?_⟩
  refine ⟨by rw [sizeLine_eq]; decide, by rw [sizeLine_eq]; decide, trivial, by decide +kernel, by decide +kernel, by rw [sizeLine_eq]; decide, ?_⟩
  simp only [show (Str.ofString "BadNumber" == Str.ofString "BadLot") = false from by decide +kernel, show (Str.ofString "BadNumber" == Str.ofString "BadTurning") = false from by decide +kernel, show (Str.ofString "BadNumber" == Str.ofString "BadNest") = false from by decide +kernel, show (Str.ofString "BadNumber" == Str.ofString "BadLabels") = false from by decide +kernel, show (Str.ofString "BadNumber" == Str.ofString "BadNumber") = true from by decide +kernel, show (Str.ofString "BadNumber" == Str.ofString "BadValue") = false from by decide +kernel, show (Str.ofString "BadNumber" == Str.ofString "BadWeb") = false from by decide +kernel, show (Str.ofString "BadNumber" == Str.ofString "BadPuzzle") = false from by decide +kernel, show (Str.ofString "BadNumber" == Str.ofString "BadPaper") = false from by decide +kernel, show (Str.ofString "BadNumber" == Str.ofString "Misfit") = false from by decide +kernel, show (Str.ofString "BadNumber" == Str.ofString "Nothing") = false from by decide +kernel]
  simp_all only [fMrT, recv, gCount]
  refine ⟨trivial, ⟨by decide +kernel, by decide +kernel⟩, ⟨(Lay.int (k := 0) _).ok, (Lay.int (k := 0) _).ok⟩, ?_⟩
  rw [show List.countP (fun z => D.eqv z (D.bl true)) [D.bl false, D.bl false, D.bl false, D.bl false, D.bl true, D.bl false, D.bl false, D.bl false, D.bl false, D.bl false, D.bl false] = 1 from by decide +kernel, eqv_int, show decide (((1 : Nat) : Int) = 1) = true from rfl]
  simp only [gIndex]
  refine ⟨trivial, ⟨by decide +kernel, by decide +kernel⟩, ?_⟩
  rw [show List.findIdx? (fun z => D.eqv z (D.bl true)) [D.bl false, D.bl false, D.bl false, D.bl false, D.bl true, D.bl false, D.bl false, D.bl false, D.bl false, D.bl false, D.bl false] = some 4 from by decide +kernel]
  simp only []
  rw [show L2.atI [D.str (Str.ofString "lot"), D.str (Str.ofString "turning"), D.str (Str.ofString "nest"), D.str (Str.ofString "labels"), D.str (Str.ofString "number"), D.str (Str.ofString "value"), D.str (Str.ofString "web"), D.str (Str.ofString "puzzle"), D.str (Str.ofString "paper"), D.str (Str.ofString "misfit"), D.str (Str.ofString "nothing")] ((4 : Nat) : Int) = some (.str "number") from atI_nat _ 4 (by decide)]
  exact ⟨by decide +kernel, .str p, by rfl, by rw [sizeLine_eq]; decide, h⟩
end L01
end
section
set_option maxRecDepth 100000
set_option maxHeartbeats 1000000
namespace L01
open PySem PySem.Spec PyProof.Rows L2 DS
local macro_rules
  | `(tactic| simp_all only [$ts,*]) => `(tactic| simp only [sRet, sIf, sSeq, sSet, sPar, sDrop, sNext, sNever, sAsg, sAsgW, sFor, fOp, fCall, fG, fH, fO, fUn, fChain, DS.fIf, tOp2, fTrue, fNot, fAnd, fOr, DS.gAnd, DS.gOr, DS.gNot, fTup, fLst, aCons, aNil, fOwn, fOwnK, fSeq, gC, DS.gName, hName, with1, with2, withs, Hd.get, startD, Dst.put, twSub, twSeq, twsCons, twsNil, twTg, tgName, tgSeqN, tgsCons, tgsNil, withO, withL, ownL, fYes, gRev, fRg1, fRg2, fLstRg, fTupRg, fR1, fR2,
  gAdd, DS.gSub, gMul, gMod, gNeg, gLt, gLe, gGt, gGe, gEq, gNe, gIx, gLen, gLst1, gTup1, gInt1, gAbs, gIsi, tyOf, tysOf, isT, gAppend, gExtend, gPop, gPopAt, fMt, fLc, fLc2, restore, wipeD, atI_0, atI_1,
  List.map_cons, List.map_nil, List.length_cons, List.length_nil, List.replicate_succ, List.replicate_zero, List.getElem?_cons_zero, List.getElem?_cons_succ, List.getElem?_nil, List.set_cons_zero, List.set_cons_succ, List.set_nil, List.nil_append, List.cons_append, List.append_nil, Nat.reduceAdd, Nat.reduceSub, $ts,*])
/-- no turning at all; may be compared -/
structure OddOk (d : D) : Prop where
  fine : Fine d
  no : ¬ ∃ (many : Nat) (ns : List Int), 1 ≤ many ∧ many ≤ 20 ∧ Turn d many ns
  cmp : (∃ ks xs, d = .dk ks xs) ∨ Lay 3 d
def oddL : List D := [D.non, D.int 5, D.str (Str.ofString "ab"), D.tup [], D.lst [D.int 0, D.int 0], D.lst [D.int 1, D.int 2], D.lst [D.int (-1), D.int 0], D.lst [D.bl true, D.int 0], D.lst [D.int 0, D.non], D.lst (rgD 0 21), D.dk [] [], D.lst [D.int 0, D.int 2], D.lst [D.str (Str.ofString "0")], D.lst [D.lst [D.int 0]]]
theorem flat_no {d : D} (h1 : ∀ xs, d ≠ .lst xs) (h2 : ∀ xs, d ≠ .tup xs) : ¬ ∃ (many : Nat) (ns : List Int), 1 ≤ many ∧ many ≤ 20 ∧ Turn d many ns := fun ⟨_, ns, _, _, t⟩ => t.1.elim (h1 _) (h2 _)
theorem lst_no {xs : List D} (h : ∀ (many : Nat) (ns : List Int), intsD xs = some ns → 1 ≤ many → many ≤ 20 → ns.Perm (idN many) → False) : ¬ ∃ (many : Nat) (ns : List Int), 1 ≤ many ∧ many ≤ 20 ∧ Turn (.lst xs) many ns := fun ⟨many, ns, m1, m2, t⟩ => by
  rcases t.1 with e | e
  · injection e with e
    exact h many ns (by rw [e, intsD_of]) m1 m2 t.2
  · cases e
theorem two_no {a b : Int} (h : a = b ∨ a < 0 ∨ 2 ≤ a ∨ b < 0 ∨ 2 ≤ b) : ¬ ∃ (many : Nat) (ns : List Int), 1 ≤ many ∧ many ≤ 20 ∧ Turn (.lst [.int a, .int b]) many ns := lst_no fun many ns e m1 m2 p => by
  have e2 : ns = [a, b] := by
    have : intsD [D.int a, D.int b] = some [a, b] := rfl
    rw [this] at e
    exact (Option.some.inj e).symm
  subst e2
  have hl := perm_len p
  have nd := perm_nodup p
  obtain ⟨i, hi, ei⟩ := perm_mem p a (by simp)
  obtain ⟨j, hj, ej⟩ := perm_mem p b (by simp)
  simp only [List.length_cons, List.length_nil] at hl
  rcases h with h | h | h | h | h
  · subst h
    simp at nd
  · omega
  · omega
  · omega
  · omega
theorem odd_ok {d : D} (h : d ∈ oddL) : OddOk d := by
  unfold oddL at h
  simp only [List.mem_cons, List.not_mem_nil, or_false] at h
  have lI : ∀ i : Int, Lay 1 (.int i) := fun i => .int i
  rcases h with rfl | rfl | rfl | rfl | rfl | rfl | rfl | rfl | rfl | rfl | rfl | rfl | rfl | rfl
  · exact ⟨rfl, flat_no (by simp) (by simp), .inr .non⟩
  · exact ⟨rfl, flat_no (by simp) (by simp), .inr (.int _)⟩
  · exact ⟨rfl, flat_no (by simp) (by simp), .inr (.str (by decide +kernel))⟩
  · refine ⟨⟨by simp, by simp⟩, fun ⟨many, ns, m1, m2, t⟩ => ?_, .inr (Lay.tup (k := 2) (by simp))⟩
    have hl := t.len
    rcases t.1 with e | e
    · cases e
    · injection e with e
      have := congrArg List.length e
      rw [intD_len] at this
      simp at this
      omega
  · exact ⟨⟨by simp, by simp [tyOf]⟩, two_no (by omega), .inr (Lay.lst (k := 2) (by simp; exact .int _))⟩
  · exact ⟨⟨by simp, by simp [tyOf]⟩, two_no (by omega), .inr (Lay.lst (k := 2) (by simp; exact ⟨.int _, .int _⟩))⟩
  · exact ⟨⟨by simp, by simp [tyOf]⟩, two_no (by omega), .inr (Lay.lst (k := 2) (by simp; exact ⟨.int _, .int _⟩))⟩
  · exact ⟨⟨by simp, by simp [tyOf]⟩, lst_no fun _ _ e => (by cases e), .inr (Lay.lst (k := 2) (by simp; exact ⟨.bl _, .int _⟩))⟩
  · exact ⟨⟨by simp, by simp [tyOf]⟩, lst_no fun _ _ e => (by cases e), .inr (Lay.lst (k := 2) (by simp; exact ⟨.int _, .non⟩))⟩
  · have e : rgD 0 21 = intD (idN 21) := (rgD_upTo 21).trans (upTo_intD 21)
    rw [e]
    refine ⟨⟨by simp [intD, idN], fun x hx => ?_⟩, lst_no fun many ns e2 m1 m2 p => ?_, .inr ((Lay.lst (k := 0) (ints_lay 0 _)).mono (by omega))⟩
    · obtain ⟨i, _, rfl⟩ := List.mem_map.mp hx
      rfl
    · rw [intsD_of] at e2
      have e3 := Option.some.inj e2
      subst e3
      have := perm_len p
      simp [idN] at this
      omega
  · exact ⟨rfl, flat_no (by simp) (by simp), .inl ⟨_, _, rfl⟩⟩
  · exact ⟨⟨by simp, by simp [tyOf]⟩, two_no (by omega), .inr (Lay.lst (k := 2) (by simp; exact ⟨.int _, .int _⟩))⟩
  · exact ⟨⟨by simp, by simp [tyOf]⟩, lst_no fun _ _ e => (by cases e), .inr (Lay.lst (k := 2) (by simp; exact .str (by decide +kernel)))⟩
  · exact ⟨⟨by simp, by simp [tyOf]⟩, lst_no fun _ _ e => (by cases e), .inr (Lay.lst (k := 2) (by simp; exact Lay.lst (k := 1) (by simp; exact .int _)))⟩
end L01
end
section
set_option maxRecDepth 100000
set_option maxHeartbeats 1000000
namespace L01
open PySem PySem.Spec PyProof.Rows L2 DS
local macro_rules
  | `(tactic| simp_all only [$ts,*]) => `(tactic| simp only [sRet, sIf, sSeq, sSet, sPar, sDrop, sNext, sNever, sAsg, sAsgW, sFor, fOp, fCall, fG, fH, fO, fUn, fChain, DS.fIf, tOp2, fTrue, fNot, fAnd, fOr, DS.gAnd, DS.gOr, DS.gNot, fTup, fLst, aCons, aNil, fOwn, fOwnK, fSeq, gC, DS.gName, hName, with1, with2, withs, Hd.get, startD, Dst.put, twSub, twSeq, twsCons, twsNil, twTg, tgName, tgSeqN, tgsCons, tgsNil, withO, withL, ownL, fYes, gRev, fRg1, fRg2, fLstRg, fTupRg, fR1, fR2,
  gAdd, DS.gSub, gMul, gMod, gNeg, gLt, gLe, gGt, gGe, gEq, gNe, gIx, gLen, gLst1, gTup1, gInt1, gAbs, gIsi, tyOf, tysOf, isT, gAppend, gExtend, gPop, gPopAt, fMt, fLc, fLc2, restore, wipeD, atI_0, atI_1,
  List.map_cons, List.map_nil, List.length_cons, List.length_nil, List.replicate_succ, List.replicate_zero, List.getElem?_cons_zero, List.getElem?_cons_succ, List.getElem?_nil, List.set_cons_zero, List.set_cons_succ, List.set_nil, List.nil_append, List.cons_append, List.append_nil, Nat.reduceAdd, Nat.reduceSub, $ts,*])
variable {Ed : EdT} {Q : D → Nat → Prop} {n : Nat}
abbrev M_law := m_law C_still C_rounds C_backward C_product C_pick C_lback C_lrounds C_mixed
abbrev endL : DEn := ⟨fun _ => False, fun d _ => d = .bl true, fun _ => False, fun _ => False⟩
abbrev S_ := Option (Bool × D)
abbrev slL (turn many due odd heard one other none_ bad spot : S_) : List S_ := [none, some (false, .pen), turn, many, due, odd, heard, one, other, none_, bad, spot]
theorem seq_open {f g : FSt} {Ed : EdT} {N : DEn} {δ : Dst} (h : ∀ G : FSt, G = g → f Ed { N with nx := fun δ' => G Ed N δ' } δ) : sSeq f g Ed N δ := h g rfl
theorem for_open {fi : FX (List D)} {tg : FTg} {body : FSt} {Ed : EdT} {N : DEn} {δ : Dst} (h : ∀ B : FSt, B = body → fi Ed δ fun items δ1 => forL tg (B Ed) N items δ1) : sFor fi tg body Ed N δ := h body rfl
theorem perm_ints {ys : List D} {many : Nat} (hp : ys.Perm (upTo many)) : ∃ ns : List Int, ys = intD ns ∧ ns.Perm (idN many) := by
  rw [upTo_intD] at hp
  obtain ⟨ns, p, e⟩ := perm_map_ex D.int hp (idN many) rfl
  exact ⟨ns, e, p⟩
theorem comp_eq {ns ms : List Int} {many : Nat} (p : ns.Perm (idN many)) : ((List.range many).map fun i : Nat => D.int (ms.getD (ns.getD i 0).toNat 0)) = intD (compI ns ms) := by
  have hl := perm_len p
  unfold compI intD
  rw [List.map_map]
  refine List.ext_getElem (by simp [hl]) fun i h1 h2 => ?_
  have hi : i < ns.length := by simpa using h2
  simp [List.getD_eq_getElem?_getD, List.getElem?_eq_getElem hi]
theorem shw_int {i : Int} (h : -1000 ≤ i ∧ i ≤ 1000) : Shw 20 (.int i) := by
  refine (Shw.int (b := 11) (by omega) ?_).mono (by omega)
  have : i.natAbs < 2 ^ 11 := by omega
  by_cases z : i.natAbs = 0
  · rw [z]; decide
  · exact (Nat.log2_lt z).mpr this
theorem intD_inj {a b : List Int} (h : intD a = intD b) : a = b := by
  have := congrArg intsD h
  rw [intsD_of, intsD_of] at this
  exact Option.some.inj this
theorem turn_inj {v : D} {a b : Nat} {ns ms : List Int} (h : Turn v a ns) (k : Turn v b ms) : ms = ns ∧ b = a := by
  have e : ms = ns := by
    rcases h.1 with x | x <;> rcases k.1 with y | y <;> rw [x] at y
    · exact (intD_inj (by injection y)).symm
    · cases y
    · cases y
    · exact (intD_inj (by injection y)).symm
  subst e
  exact ⟨rfl, k.len.symm.trans h.len⟩
theorem use_product {v u : D} {many : Nat} {ns ms : List Int} (s1 : 1 ≤ many) (s2 : many ≤ 20) (t : Turn v many ns) (k : Turn u many ms) (q : Q (.tup (intD (compI ns ms))) n) : C_product [v, u] n Q Ed :=
  ⟨v, u, rfl, t.fine s2, k.fine s2, fun a xs ys _ _ t2 k2 => by obtain ⟨rfl, rfl⟩ := turn_inj t t2; obtain ⟨rfl, _⟩ := turn_inj k k2; exact q, fun no => absurd ⟨many, ns, s1, s2, t⟩ no, fun a xs _ _ t2 no => by obtain ⟨rfl, rfl⟩ := turn_inj t t2; exact absurd ⟨ms, k⟩ no⟩
theorem use_backward {v : D} {many : Nat} {ns : List Int} (s1 : 1 ≤ many) (s2 : many ≤ 20) (t : Turn v many ns) (q : Q (.tup (intD (invI many ns))) n) : C_backward [v] n Q Ed :=
  ⟨v, rfl, t.fine s2, fun a xs _ _ t2 => by obtain ⟨rfl, rfl⟩ := turn_inj t t2; exact q, fun no => absurd ⟨many, ns, s1, s2, t⟩ no⟩
theorem use_rounds {v : D} {many : Nat} {ns : List Int} (s1 : 1 ≤ many) (s2 : many ≤ 20) (t : Turn v many ns) (q : Q (.tup (rowsT (rndI ns))) n) : C_rounds [v] n Q Ed :=
  ⟨v, rfl, t.fine s2, fun a xs _ _ t2 => by obtain ⟨rfl, rfl⟩ := turn_inj t t2; exact q, fun no => absurd ⟨many, ns, s1, s2, t⟩ no⟩
theorem go_row {ns : List Int} {many : Nat} (p : ns.Perm (idN many)) : ∀ (f : Nat) (seen row : List Int) (here : Nat), here < many → (∀ y ∈ row, ∃ j : Nat, j < many ∧ y = (j : Int)) → ∀ y ∈ (go ns f seen row here).1, ∃ j : Nat, j < many ∧ y = (j : Int)
  | 0, _, _, _, _, h => h
  | f + 1, seen, row, here, hh, h => by
    by_cases z : (here : Int) ∈ seen
    · rw [go_stop z]; exact h
    · rw [go_step z]
      obtain ⟨k, hk, ek⟩ := stp_rg p hh
      rw [show ((here : Int)).toNat = here by simp, ek]
      refine go_row p f _ _ k hk fun y hy => ?_
      rcases List.mem_append.mp hy with w | w
      · exact h y w
      · rw [List.mem_singleton] at w; exact ⟨here, hh, w⟩
theorem fold_ok {ns : List Int} {many : Nat} (p : ns.Perm (idN many)) : ∀ (l : List Nat) (st : List (List Int) × List Int), (∀ i ∈ l, i < many) → Seen many st.2 → (∀ r ∈ st.1, r.length ≤ many ∧ ∀ y ∈ r, ∃ j : Nat, j < many ∧ y = (j : Int)) →
    ((l.map fun i : Nat => (i : Int)).foldl (rnd ns) st).1.length ≤ st.1.length + l.length ∧ ∀ r ∈ ((l.map fun i : Nat => (i : Int)).foldl (rnd ns) st).1, r.length ≤ many ∧ ∀ y ∈ r, ∃ j : Nat, j < many ∧ y = (j : Int)
  | [], st, _, _, h => ⟨Nat.le_refl _, h⟩
  | i :: l, st, hl, sn, h => by
    rw [List.map_cons, List.foldl_cons]
    have hi := hl i List.mem_cons_self
    by_cases z : (i : Int) ∈ st.2
    · have e : rnd ns st (i : Int) = st := by unfold rnd; rw [if_pos z]
      rw [e]
      obtain ⟨a, b⟩ := fold_ok p l st (fun j hj => hl j (List.mem_cons_of_mem _ hj)) sn h
      exact ⟨by rw [List.length_cons]; omega, b⟩
    · have e : rnd ns st (i : Int) = (st.1 ++ [(go ns ns.length st.2 [] (i : Int)).1], (go ns ns.length st.2 [] (i : Int)).2) := by unfold rnd; rw [if_neg z]
      obtain ⟨g1, g2⟩ := go_seen p ns.length st.2 [] i hi sn (Nat.zero_le _)
      have g3 := go_row p ns.length st.2 [] i hi (by simp)
      rw [e]
      obtain ⟨a, b⟩ := fold_ok p l (st.1 ++ [(go ns ns.length st.2 [] (i : Int)).1], (go ns ns.length st.2 [] (i : Int)).2) (fun j hj => hl j (List.mem_cons_of_mem _ hj)) g1 (fun r hr => by
        rcases List.mem_append.mp hr with w | w
        · exact h r w
        · rw [List.mem_singleton] at w
          subst w
          exact ⟨Nat.le_trans g2 g1.few, g3⟩)
      refine ⟨?_, b⟩
      simp only [List.length_append, List.length_cons, List.length_nil] at a ⊢
      omega
theorem rndI_ok {ns : List Int} {many : Nat} (p : ns.Perm (idN many)) : (rndI ns).length ≤ many ∧ ∀ r ∈ rndI ns, r.length ≤ many ∧ ∀ y ∈ r, ∃ j : Nat, j < many ∧ y = (j : Int) := by
  obtain ⟨a, b⟩ := fold_ok p (List.range many) ([], []) (fun i hi => List.mem_range.mp hi) ⟨by simp, by simp⟩ (by simp)
  unfold rndI idN
  rw [perm_len p]
  exact ⟨by simpa using a, b⟩
theorem use_still {many : Nat} (s1 : 1 ≤ many) (s2 : many ≤ 20) (q : Q (.tup (upTo many)) n) : C_still [.int many] n Q Ed :=
  ⟨_, rfl, rfl, fun a e _ _ => by
    have : (many : Int) = (a : Int) := by injection e
    have : many = a := by omega
    subst this
    exact q, fun e => by
    have : withB (.int (many : Int)) 1 20 = true := by
      simp only [withB]
      rw [decide_eq_true (by omega), decide_eq_true (by omega)]
      rfl
    rw [this] at e
    cases e⟩
structure NoneOk (many : Nat) (d : D) : Prop where
  fine : Fine d
  no : ¬ ∃ ms, Turn d many ms
  cmp : (∃ ks xs, d = .dk ks xs) ∨ Lay 3 d
theorem tup_none {many : Nat} {q : List Int} (h : q.length ≠ many) (h2 : q.length ≤ 1000) : NoneOk many (.tup (intD q)) := by
  refine ⟨⟨by rw [intD_len]; exact h2, fun x hx => ?_⟩, fun ⟨ms, t⟩ => ?_, .inr ((Lay.tup (k := 0) (ints_lay 0 q)).mono (by omega))⟩
  · obtain ⟨i, _, rfl⟩ := List.mem_map.mp hx
    rfl
  · have hl := t.len
    rcases t.1 with e | e
    · cases e
    · injection e with e
      have := intD_inj e
      subst this
      exact h hl
theorem cut1 (q : List Int) : DS.cutD (intD q) (some 1) none = intD (q.drop 1) := by
  unfold DS.cutD
  rw [show (some (1 : Int)) = some (((1 : Nat) : Int)) from rfl, HT.sIx_nat, HT.sIx_none]
  cases q with
  | nil => rfl
  | cons a r =>
    simp [intD, List.map_drop]
    rw [List.take_of_length_le (by simp)]
theorem law_ok : M_law NoE endL ⟨none :: some (false, .pen) :: List.replicate 10 none, 0⟩ := by
  show M_law NoE endL ⟨slL none none none none none none none none none none, 0⟩
  unfold M_law m_law
  refine seq_open fun G1 h1 => ?_
  refine for_open fun B hB => ?_
  simp_all only []
  refine ⟨⟨by omega, by omega⟩, ?_⟩
  rw [rgD_0 6 (6 : Int) (by simp)]
  refine forP (fun i : Nat => .int (i : Nat)) (List.range 6) (fun pre δ => ∃ (o2 o3 o4 o5 o6 o7 o8 o9 o10 o11 : S_) (m : Nat), δ = ⟨slL o2 o3 o4 o5 o6 o7 o8 o9 o10 o11, m⟩ ∧ m ≤ 50 * pre.length) ?_ ?_ ⟨none, none, none, none, none, none, none, none, none, none, 0, rfl, by simp⟩
  · rintro pre x post δ K e ⟨o2, o3, o4, o5, o6, o7, o8, o9, o10, o11, m, rfl, hm⟩ hK
    have hpl := congrArg List.length e
    simp only [List.length_range, List.length_append, List.length_cons] at hpl
    have hm5 : m ≤ 300 := by omega
    simp_all only []
    rw [hB]
    clear hB h1
    refine seq_open fun G2 h2 => ?_
    simp_all only []
    refine ⟨sz20 (by simp), _, rfl, by simp, by simp, by omega, fun z hz => ?_⟩
    obtain ⟨many, rfl, s1, s2⟩ : ∃ many : Nat, z = .int (many : Nat) ∧ 1 ≤ many ∧ many ≤ 20 := by
      simp only [List.mem_cons, List.not_mem_nil, or_false] at hz
      rcases hz with rfl | rfl | rfl | rfl | rfl | rfl <;> exact ⟨_, rfl, by simp, by simp⟩
    rw [h2]
    clear h2 hz
    refine seq_open fun G3 h3 => ?_
    simp_all only []
    rw [rgD_upTo]
    refine ⟨rgOk20 s2, upTo many, rfl, by simp [upTo]; omega, by simp [upTo]; omega, fun ys hp => ?_⟩
    obtain ⟨ns, rfl, p1⟩ := perm_ints hp
    simp_all only []
    rw [show (upTo many).length = many by simp [upTo]]
    refine ⟨rgOk20 s2, upTo many, rfl, by simp [upTo]; omega, by simp [upTo]; omega, fun zs hq => ?_⟩
    obtain ⟨ms, rfl, p2⟩ := perm_ints hq
    clear hp hq
    simp_all only []
    rw [h3]
    clear h3
    refine seq_open fun G4 h4 => ?_
    have l1 := perm_len p1
    have l2 := perm_len p2
    have hat : ∀ i : Nat, i < many → ∃ k : Nat, k < many ∧ ns.getD i 0 = (k : Int) := fun i hi => stp_rg p1 hi
    simp_all only []
    refine ⟨⟨by omega, by omega⟩, ?_⟩
    rw [rgD_0 many _ rfl]
    refine lcP _ (fun i : Nat => D.int (i : Nat)) (fun i : Nat => D.int (ms.getD (ns.getD i 0).toNat 0)) (List.range many) rfl (sz20 (by simp; exact s2)) (fun i hi K2 hK2 => ?_) fun δ' e2 => ?_
    · have hi' := List.mem_range.mp hi
      obtain ⟨k, hk, ek⟩ := hat i hi'
      have ea : L2.atI (intD ns) (i : Int) = some (.int (k : Nat)) := by
        unfold intD
        rw [atI_map D.int ns i (by omega), ← ek, List.getD_eq_getElem?_getD, List.getElem?_eq_getElem (show i < ns.length by omega), Option.getD_some]
      have eb : L2.atI (intD ms) (k : Int) = some (.int (ms.getD (ns.getD i 0).toNat 0)) := by
        unfold intD
        rw [atI_map D.int ms k (by omega), ek, show ((k : Int)).toNat = k by simp, List.getD_eq_getElem?_getD, List.getElem?_eq_getElem (show k < ms.length by omega), Option.getD_some]
      simp_all only [ea, eb]
      exact hK2 _ rfl
    · rw [comp_eq p1]
      (have hsl := congrArg Dst.sl e2; have hnn := congrArg Dst.n e2; simp only [wipeD, Dst.put, List.set_cons_zero, List.set_cons_succ, List.set_nil] at hsl hnn; simp only [hsl, hnn]; clear hsl hnn)
      simp_all only []
      rw [h4]
      clear h4
      refine seq_open fun G5 h5 => ?_
      have T1 : Turn (.tup (intD ns)) many ns := ⟨.inr rfl, p1⟩
      have T2 : Turn (.tup (intD ms)) many ms := ⟨.inr rfl, p2⟩
      have L1 : Turn (.lst (intD ns)) many ns := ⟨.inl rfl, p1⟩
      have L2' : Turn (.lst (intD ms)) many ms := ⟨.inl rfl, p2⟩
      simp_all only [bk_product_other_one]
      refine use_product s1 s2 T1 L2' ⟨⟨trivial, trivial⟩, use_product s1 s2 L1 T2 ?_⟩
      have small : ∀ q : List Int, (∀ i ∈ q, -1000 ≤ i ∧ i ≤ 1000) → q.length ≤ 20 → Shw 600 (.tup (intD q)) := fun q hq hl => (Shw.tup (b := 20) (fun y hy => by
        obtain ⟨i, hi, rfl⟩ := List.mem_map.mp hy
        exact shw_int (hq i hi)) (by rw [intD_len]; omega))
      have sC : Shw 600 (.tup (intD (compI ns ms))) := small _ (fun i hi => by
        unfold compI at hi
        obtain ⟨j, hj, rfl⟩ := List.mem_map.mp hi
        obtain ⟨a, ha, rfl⟩ := perm_mem p1 j hj
        obtain ⟨k, hk, ek⟩ := stp_rg p2 ha
        rw [show ((a : Int)).toNat = a by simp, ek]
        omega) (by unfold compI; rw [List.length_map]; omega)
      have lt : ∀ q : List Int, Lay 3 (.tup (intD q)) := fun q => (Lay.tup (k := 0) (ints_lay 0 q)).mono (by omega)
      have pairs : ∀ a : D, Lay 3 a → Shw 20000 a → ∀ y ∈ [a, a], Lay 3 y ∧ Shw 20000 y := fun a h1 h2 y hy => by
        rcases List.mem_cons.mp hy with z | z
        · rw [z]; exact ⟨h1, h2⟩
        · rw [List.mem_singleton] at z; rw [z]; exact ⟨h1, h2⟩
      have big : 2 * (20000 + 2) + 3 ≤ sizeLine := by rw [sizeLine_eq]; decide
      have nosI : ∀ q : List Int, nosL (intD q) = true := fun q => by
        induction q with
        | nil => rfl
        | cons i r ih => unfold intD at ih ⊢; simp only [List.map_cons, nosL, nos, ih, Bool.and_self]
      have okp : ∀ a : D, nos a = true → (D.str (D.lst [a, a]).py.shown).ok = true := fun a h => (Lay.str (k := 0) (shown_ok (.lst [a, a]) (by simp [nos, nosL, h]))).ok
      have selfp : ∀ a : D, nos a = true → (D.str (D.lst [a, a]).py.shown).eqv (D.str (D.lst [a, a]).py.shown) = true := fun a h => (Lay.str (k := 0) (shown_ok (.lst [a, a]) (by simp [nos, nosL, h]))).eqv
      refine ⟨by rw [sizeLine_eq]; decide, gRepr_lst (pairs _ (lt _) (sC.mono (by omega))) (by omega) big ⟨by rw [sizeLine_eq]; decide, gRepr_lst (pairs _ (lt _) (sC.mono (by omega))) (by omega) big ⟨⟨okp _ (by simp [nos, nosI]), okp _ (by simp [nos, nosI])⟩, ?_⟩⟩⟩
      rw [selfp _ (by simp [nos, nosI])]
      simp_all only [Bool.not_true]
      rw [h5]
      clear h5
      refine seq_open fun G6 h6 => ?_
      simp_all only [bk_backward_one, bk_rounds_one]
      have sI : Shw 600 (.tup (intD (invI many ns))) := small _ (fun i hi => by
        unfold invI at hi
        obtain ⟨j, hj, rfl⟩ := List.mem_map.mp hi
        have := List.idxOf_le_length (a := (j : Int)) (l := ns)
        omega) (by unfold invI; simp; omega)
      have rk := rndI_ok p1
      have rowOk : ∀ y ∈ rowsT (rndI ns), Lay 3 y ∧ Shw 600 y := fun y hy => by
        obtain ⟨r, hr, rfl⟩ := List.mem_map.mp hy
        obtain ⟨a, b⟩ := rk.2 r hr
        exact ⟨lt r, small r (fun i hi => by obtain ⟨j, hj, rfl⟩ := b i hi; omega) (by omega)⟩
      have sR : Shw 20000 (.tup (rowsT (rndI ns))) := Shw.tup (b := 600) (fun y hy => (rowOk y hy).2) (by unfold rowsT; rw [List.length_map]; have := rk.1; omega)
      have lR : Lay 4 (.tup (rowsT (rndI ns))) := Lay.tup fun y hy => (rowOk y hy).1
      have nosR : ∀ rs : List (List Int), nosL (rowsT rs) = true := fun rs => by
        induction rs with
        | nil => rfl
        | cons r rs ih => unfold rowsT at ih ⊢; simp only [List.map_cons, nosL, nos, nosI, ih, Bool.and_self]
      have pairs4 : ∀ a : D, Lay 4 a → Shw 20000 a → ∀ y ∈ [a, a], Lay 4 y ∧ Shw 20000 y := fun a h1 h2 y hy => by
        rcases List.mem_cons.mp hy with z | z
        · rw [z]; exact ⟨h1, h2⟩
        · rw [List.mem_singleton] at z; rw [z]; exact ⟨h1, h2⟩
      have twice : ∀ a : D, (List.replicate (Int.toNat 2) [a]).flatten = [a, a] := fun a => rfl
      have mul2 : -2 ^ 63 ≤ (2 : Int) ∧ (2 : Int) < 2 ^ 63 ∧ 1 * Int.toNat 2 ≤ sizeLine := ⟨by omega, by omega, by rw [sizeLine_eq]; decide⟩
      refine use_backward s1 s2 L1 ⟨⟨trivial, trivial⟩, use_backward s1 s2 T1 ⟨by rw [sizeLine_eq]; decide, gRepr_lst (pairs _ (lt _) (sI.mono (by omega))) (by omega) big ⟨many, ns, rfl, s2, p1, by rw [sizeLine_eq]; decide, mul2, ?_⟩⟩⟩
      rw [twice]
      refine gRepr_lst (pairs _ (lt _) (sI.mono (by omega))) (by omega) big ⟨⟨okp _ (by simp [nos, nosI]), okp _ (by simp [nos, nosI])⟩, ?_⟩
      rw [selfp _ (by simp [nos, nosI])]
      simp_all only [Bool.not_true]
      refine use_rounds s1 s2 T1 ⟨⟨trivial, trivial⟩, use_rounds s1 s2 L1 ⟨by rw [sizeLine_eq]; decide, gRepr_lst (pairs4 _ lR sR) (by omega) big ⟨many, ns, rfl, s2, p1, by rw [sizeLine_eq]; decide, mul2, ?_⟩⟩⟩
      rw [twice]
      refine gRepr_lst (pairs4 _ lR sR) (by omega) big ⟨⟨okp _ (by simp [nos, nosR]), okp _ (by simp [nos, nosR])⟩, ?_⟩
      rw [selfp _ (by simp [nos, nosR])]
      simp_all only [Bool.not_true]
      rw [h6]
      clear h6
      refine seq_open fun G7 h7 => ?_
      simp_all only [bk_still_many]
      have sU : Shw 600 (.tup (upTo many)) := by
        rw [upTo_intD]
        exact small _ (fun i hi => by unfold idN at hi; obtain ⟨j, hj, rfl⟩ := List.mem_map.mp hi; have := List.mem_range.mp hj; omega) (by simp [idN]; exact s2)
      have lU : Lay 3 (.tup (upTo many)) := by rw [upTo_intD]; exact lt _
      have nU : nos (.tup (upTo many)) = true := by rw [upTo_intD]; simp [nos, nosI]
      refine use_still s1 s2 ⟨⟨trivial, trivial⟩, use_still s1 s2 ⟨by rw [sizeLine_eq]; decide, gRepr_lst (pairs _ lU (sU.mono (by omega))) (by omega) big ⟨rgOk20 s2, by rw [sizeLine_eq]; decide, mul2, ?_⟩⟩⟩
      rw [twice, rgD_upTo]
      refine gRepr_lst (pairs _ lU (sU.mono (by omega))) (by omega) big ⟨⟨okp _ nU, okp _ nU⟩, ?_⟩
      rw [selfp _ nU]
      simp_all only [Bool.not_true]
      rw [h7]
      clear h7
      refine seq_open fun G8 h8 => ?_
      simp_all only [fDk]
      have z0 : 0 ≤ sizeLine := Nat.zero_le _
      have z1 : 1 ≤ sizeLine := by rw [sizeLine_eq]; decide
      have z2 : 2 ≤ sizeLine := by rw [sizeLine_eq]; decide
      have z14 : 14 ≤ sizeLine := by rw [sizeLine_eq]; decide
      have lenU : (upTo many).length = many := by simp [upTo]
      refine ⟨z0, z2, z2, z2, z2, z2, RgOk.of_le (by omega) (by omega) (by omega) (by omega), z2, z1, z1, z1, z14, _, rfl, by simp, by simp, by omega, fun odd hodd => ?_⟩
      have od := odd_ok hodd
      rw [h8]
      clear h8 hodd
      refine seq_open fun G9 h9 => ?_
      simp_all only [fSl, fPart, fNoP, gSl]
      have r1 : rgD 0 ((many : Int) + 1) = intD (idN (many + 1)) := (rgD_upTo (many + 1)).trans (upTo_intD (many + 1))
      have r2 : rgD 0 (many : Int) = intD (idN many) := (rgD_upTo many).trans (upTo_intD many)
      rw [r1, r2, cut1]
      refine ⟨RgOk.of_le (by omega) (by omega) (by omega) (by omega), rgOk20 s2, by rw [sizeLine_eq]; decide, _, rfl, by simp, by simp, by omega, fun nn hnn => ?_⟩
      have nk : NoneOk many nn := by
        simp only [List.mem_cons, List.not_mem_nil, or_false] at hnn
        rcases hnn with rfl | rfl | rfl
        · exact ⟨od.fine, fun ⟨ms', t⟩ => od.no ⟨many, ms', s1, s2, t⟩, od.cmp⟩
        · exact tup_none (by simp [idN]) (by simp [idN]; omega)
        · exact tup_none (by simp [idN]; omega) (by simp [idN]; omega)
      clear hnn
      simp_all only []
      have z7 : 7 ≤ sizeLine := by rw [sizeLine_eq]; decide
      refine ⟨z1, z7, _, rfl, by simp, by simp, by omega, fun bd hbd => ?_⟩
      have bk : (tyOf bd).isSome = true ∧ withB bd 1 20 = false := by
        simp only [List.mem_cons, List.not_mem_nil, or_false] at hbd
        rcases hbd with rfl | rfl | rfl | rfl | rfl | rfl | rfl <;> exact ⟨rfl, rfl⟩
      clear hbd
      rw [h9]
      clear h9
      refine seq_open fun G10 h10 => ?_
      have rest : ∀ (nn : D) (q11 : S_), NoneOk many nn → G10 NoE { nx := K, rt := fun d x => d = D.bl true, bk := fun δ' => G1 NoE endL δ', ct := K }
          ⟨[none, some (false, .pen), some (false, .int x), some (false, .int many), some (false, .tup (intD (compI ns ms))), some (false, odd), o6, some (false, .tup (intD ns)), some (false, .tup (intD ms)), some (false, nn), some (false, bd), q11], m + 1 + many + (upTo many).length + 1 + 1 + 1⟩ := fun nn q11 nk => by
        rw [h10]
        clear h10
        refine seq_open fun G11 h11 => ?_
        simp_all only [fHeard, frzD, maskD]
        refine ⟨odd, .non, rfl, od.fine, rfl, fun a xs ys m1 m2 t _ => absurd ⟨a, xs, m1, m2, t⟩ od.no, fun _ => ⟨by decide +kernel, heard_BadTurning ?_⟩, fun a xs m1 m2 t _ => absurd ⟨a, xs, m1, m2, t⟩ od.no⟩
        refine ⟨.tup (intD ns), nn, rfl, T1.fine s2, nk.fine, fun a xs ys m1 m2 t t2 => ?_, fun no => absurd ⟨many, ns, s1, s2, T1⟩ no, fun a xs m1 m2 t no => ⟨by decide +kernel, heard_BadTurning ?_⟩⟩
        · obtain ⟨_, rfl⟩ := turn_inj T1 t
          exact absurd ⟨ys, t2⟩ nk.no
        refine ⟨odd, rfl, od.fine, fun a xs m1 m2 t => absurd ⟨a, xs, m1, m2, t⟩ od.no, fun _ => ⟨by decide +kernel, heard_BadTurning ?_⟩⟩
        refine ⟨odd, rfl, od.fine, fun a xs m1 m2 t => absurd ⟨a, xs, m1, m2, t⟩ od.no, fun _ => ⟨by decide +kernel, heard_BadTurning ?_⟩⟩
        refine ⟨by rw [sizeLine_eq]; decide, ?_⟩
        rw [h11]
        clear h11
        simp_all only [fHeard, frzD, maskD]
        have kS : ∀ a b : Str, PyData.strOk a = true → PyData.strOk b = true → Lay 1 (.tup [.str a, .str b]) := fun a b h1 h2 => Lay.tup (k := 0) fun y hy => by
          rcases List.mem_cons.mp hy with z | z
          · rw [z]; exact .str h1
          · rw [List.mem_singleton] at z; rw [z]; exact .str h2
        have k1 := kS "turning" "one" (by decide +kernel) (by decide +kernel)
        have k2 := kS "turning" "other" (by decide +kernel) (by decide +kernel)
        have k3 := kS "number" "many" (by decide +kernel) (by decide +kernel)
        have kl : Lay 2 (.lst [.tup [.str "turning", .str "one"], .tup [.str "turning", .str "other"], .tup [.str "turning", .str "one"], .tup [.str "turning", .str "one"], .tup [.str "number", .str "many"]]) := Lay.lst (k := 1) fun y hy => by
          simp only [List.mem_cons, List.not_mem_nil, or_false] at hy
          rcases hy with rfl | rfl | rfl | rfl | rfl
          · exact k1
          · exact k2
          · exact k1
          · exact k1
          · exact k3
        have z5 : 5 ≤ sizeLine := by rw [sizeLine_eq]; decide
        refine ⟨bd, rfl, bk.1, fun a e a1 a2 => ?_, fun _ => ⟨by decide +kernel, heard_BadNumber ⟨z1, z5, z2, z2, z2, z2, z2, z5, ⟨kl.ok, kl.ok⟩, ?_⟩⟩⟩
        · have := bk.2
          rw [e] at this
          simp only [withB] at this
          rw [decide_eq_true (show (1 : Int) ≤ (a : Int) by omega), decide_eq_true (show (a : Int) ≤ 20 by omega)] at this
          cases this
        · rw [kl.eqv]
          simp_all only [Bool.not_true]
          exact hK _ ⟨_, _, _, _, _, _, _, _, _, _, _, rfl, by rw [List.length_append, List.length_singleton]; omega⟩
      simp_all only [gEqE]
      refine ⟨⟨(Lay.int (k := 0) _).ok, (Lay.int (k := 0) _).ok⟩, ?_⟩
      have nkN : NoneOk many .non := ⟨rfl, fun ⟨ms', t⟩ => (by rcases t.1 with e | e <;> cases e), .inr .non⟩
      cases hq : (D.int (many : Int)).eqv (D.int 1) with
      | false => exact rest nn _ nk
      | true =>
        refine ⟨z0, ?_⟩
        rcases nk.cmp with ⟨ks, xs, rfl⟩ | ly
        · exact rest _ _ nk
        · have lt0 : Lay 1 (.tup []) := Lay.tup (k := 0) (by simp)
          cases nn <;> first
            | exact rest _ _ nk
            | (refine ⟨⟨ly.ok, lt0.ok⟩, ?_⟩
               split
               · exact rest .non _ nkN
               · exact rest _ _ nk)
  · rintro δ ⟨o2, o3, o4, o5, o6, o7, o8, o9, o10, o11, m, rfl, hm⟩
    rw [h1]
    simp_all only []
end L01
end
section
set_option maxRecDepth 100000
set_option maxHeartbeats 0
namespace L01
open PySem PySem.W PySem.Calls PySem.Spec PyProof.Rows L2 DS DS.Nest
local macro_rules
  | `(tactic| simp_all only [$ts,*]) => `(tactic| simp only [sRet, sIf, sSeq, sSet, sPar, sDrop, sNext, sNever, sAsg, sAsgW, sFor, fOp, fCall, fG, fH, fO, fUn, fChain, DS.fIf, tOp2, fTrue, fNot, fAnd, fOr, DS.gAnd, DS.gOr, DS.gNot, fTup, fLst, aCons, aNil, fOwn, fOwnK, fSeq, gC, DS.gName, hName, with1, with2, withs, Hd.get, startD, Dst.put, twSub, twSeq, twsCons, twsNil, twTg, tgName, tgSeqN, tgsCons, tgsNil, withO, withL, ownL, fYes, gRev, fRg1, fRg2, fLstRg, fTupRg, fR1, fR2,
  gAdd, DS.gSub, gMul, gMod, gNeg, gLt, gLe, gGt, gGe, gEq, gNe, gIx, gLen, gLst1, gTup1, gInt1, gAbs, gIsi, tyOf, tysOf, isT, gAppend, gExtend, gPop, gPopAt, fMt, fLc, fLc2, restore, wipeD, atI_0, atI_1,
  List.map_cons, List.map_nil, List.length_cons, List.length_nil, List.replicate_succ, List.replicate_zero, List.getElem?_cons_zero, List.getElem?_cons_succ, List.getElem?_nil, List.set_cons_zero, List.set_cons_succ, List.set_nil, List.nil_append, List.cons_append, List.append_nil, Nat.reduceAdd, Nat.reduceSub, $ts,*])
/-! the head -/
def fn : List He.DefD := [⟨("is_integer", none), "is_integer", "is_integer", defArgs s_is_integer, defBody s_is_integer, defScope s_is_integer, [], []⟩, ⟨("is_within", none), "is_within", "is_within", defArgs s_is_within, defBody s_is_within, defScope s_is_within, [], []⟩, ⟨("is_listed", none), "is_listed", "is_listed", defArgs s_is_listed, defBody s_is_listed, defScope s_is_listed, [], []⟩, ⟨("is_row", none), "is_row", "is_row", defArgs s_is_row, defBody s_is_row, defScope s_is_row, [], []⟩, ⟨("still_of", none), "still_of", "still_of", defArgs s_still_of, defBody s_still_of, defScope s_still_of, [], []⟩, ⟨("then", none), "then", "then", defArgs s_then, defBody s_then, defScope s_then, [], []⟩, ⟨("back_of", none), "back_of", "back_of", defArgs s_back_of, defBody s_back_of, defScope s_back_of, [], []⟩, ⟨("rounds_of", none), "rounds_of", "rounds_of", defArgs s_rounds_of, defBody s_rounds_of, defScope s_rounds_of, [], []⟩, ⟨("is_turning", none), "is_turning", "is_turning", defArgs s_is_turning, defBody s_is_turning, defScope s_is_turning, [], []⟩, ⟨("need_many", none), "need_many", "need_many", defArgs s_need_many, defBody s_need_many, defScope s_need_many, [.str "many"], []⟩, ⟨("need_turning", none), "need_turning", "need_turning", defArgs s_need_turning, defBody s_need_turning, defScope s_need_turning, [], []⟩, ⟨("length_of", none), "length_of", "length_of", defArgs s_length_of, defBody s_length_of, defScope s_length_of, [], []⟩, ⟨("need_pair", none), "need_pair", "need_pair", defArgs s_need_pair, defBody s_need_pair, defScope s_need_pair, [], []⟩, ⟨("still", none), "still", "still", defArgs s_still, defBody s_still, defScope s_still, [], []⟩, ⟨("product", none), "product", "product", defArgs s_product, defBody s_product, defScope s_product, [], []⟩, ⟨("backward", none), "backward", "backward", defArgs s_backward, defBody s_backward, defScope s_backward, [], []⟩, ⟨("rounds", none), "rounds", "rounds", defArgs s_rounds, defBody s_rounds, defScope s_rounds, [], []⟩, ⟨("_law_pen", none), "_law_pen", "_law_pen", defArgs s__law_pen, defBody s__law_pen, defScope s__law_pen, [], []⟩, ⟨("_law_draw", none), "_law_draw", "_law_draw", defArgs s__law_draw, defBody s__law_draw, defScope s__law_draw, [], []⟩, ⟨("_law_pick", none), "_law_pick", "_law_pick", defArgs s__law_pick, defBody s__law_pick, defScope s__law_pick, [], []⟩, ⟨("_law_mixed", none), "_law_mixed", "_law_mixed", defArgs s__law_mixed, defBody s__law_mixed, defScope s__law_mixed, [], []⟩, ⟨("_law_back", none), "_law_back", "_law_back", defArgs s__law_back, defBody s__law_back, defScope s__law_back, [], []⟩, ⟨("_law_heard", none), "_law_heard", "_law_heard", defArgs s__law_heard, defBody s__law_heard, defScope s__law_heard, [], []⟩, ⟨("_law_rounds", none), "_law_rounds", "_law_rounds", defArgs s__law_rounds, defBody s__law_rounds, defScope s__law_rounds, [], []⟩, ⟨("law", none), "law", "law", defArgs s_law, defBody s_law, defScope s_law, [], []⟩]
def fa : List He.Fa := [.glo "is_integer", .glo "is_within", .glo "is_listed", .glo "is_row", .glo "still_of", .glo "then", .glo "back_of", .glo "rounds_of", .glo "is_turning", .glo "need_many", .glo "need_turning", .glo "length_of", .glo "need_pair", .glo "still", .glo "product", .glo "backward", .glo "rounds", .glo "_law_pen", .glo "_law_draw", .glo "_law_pick", .glo "_law_mixed", .glo "_law_back", .glo "_law_heard", .glo "_law_rounds", .glo "law", .free "abs", .free "all", .free "bool", .free "enumerate", .free "int", .free "isinstance", .free "len", .free "list", .free "range", .free "repr", .free "sorted", .free "tuple", .int "MOST_SPOTS" 20, .glo "BadLot", .glo "BadTurning", .glo "BadNest", .glo "BadLabels", .glo "BadNumber", .glo "BadValue", .glo "BadWeb", .glo "BadPuzzle", .glo "BadPaper", .glo "Misfit", .glo "Nothing", .glo "BadCommand", .glo "NoName", .glo "BadText", .glo "TooMany", .glo "LeafError"]
def ts : List He.Tab := []
def vb (K : KF) : Bool := (leafB PySem.Challenge.rw_leavesturned_k01_turnings_and_their_roun.prog K "BadTurning" ["part"] && (leafB PySem.Challenge.rw_leavesturned_k01_turnings_and_their_roun.prog K "BadNumber" ["part"] && (excSB K ["BadTurning", "BadNumber"] ["BadLot", "BadTurning", "BadNest", "BadLabels", "BadNumber", "BadValue", "BadWeb", "BadPuzzle", "BadPaper", "Misfit", "Nothing", "BadCommand", "NoName", "BadText", "TooMany"] && (noAtB K ["BadTurning", "BadNumber"] ["line", "most", "name", "part", "what", "word"] && (((["BadTurning", "BadNumber"] : List Str).all fun c => PySem.W.exmOne K (.ref (He.ga K c)) (.ref (He.ga K "LeafError")) == some true) && (namedB K ["law"] && (oneB K && true)))))))
def xs : List (Str × InW) := [("BadTurning", inW (defArgs s_BadTurning) (defBody s_BadTurning) (defScope s_BadTurning)), ("BadNumber", inW (defArgs s_BadNumber) (defBody s_BadNumber) (defScope s_BadNumber))]
abbrev R : PySem.W.OpenRow := PySem.W.OpenLaw.row PySem.Challenge.rw_leavesturned_k01_turnings_and_their_roun
abbrev hk : PySem.W.Hook := hookY 4 fa fn ts xs vb
def ob (s : PySem.W.SharedT) : AlY := obsY 4 fa fn ts (xs.map (·.1)) vb (HandSHeadRun.getT s)
theorem ob_eq (s : PySem.W.SharedT) : ob s = hk.obs s.abs := obsY_eq (HandSHeadRun.getT_eq s)
def LOOSE : List Str := (["is_integer", "is_within", "is_listed", "is_row", "still_of", "then", "back_of", "rounds_of", "is_turning", "need_many", "need_turning", "length_of", "need_pair", "still", "product", "backward", "rounds", "_law_pen", "_law_draw", "_law_pick", "_law_mixed", "_law_back", "_law_heard", "_law_rounds", "LeafError", "BadLot", "BadTurning", "BadNest", "BadLabels", "BadNumber"] : List Str) ++ (["BadValue", "BadWeb", "BadPuzzle", "BadPaper", "Misfit", "Nothing", "BadCommand", "NoName", "BadText", "TooMany", "MOST_SPOTS"] : List Str)
theorem runF (w : World) : HandSHeadRun.RunEq R (PySem.W.view R.prog [45]) hk ob 20000 LOOSE (w.withFollow "special-get-raises" false) := by
  intro os
  kernel_rfl
theorem runT (w : World) : HandSHeadRun.RunEq R (PySem.W.view R.prog [45]) hk ob 20000 LOOSE (w.withFollow "special-get-raises" true) := by
  intro os
  kernel_rfl
theorem run (w : World) : HandSHeadRun.RunEq R (PySem.W.view R.prog [45]) hk ob 20000 LOOSE w := PySem.W.byRow2 "special-get-raises" (P := fun w => HandSHeadRun.RunEq R (PySem.W.view R.prog [45]) hk ob 20000 LOOSE w) runF runT w
theorem tk {K : KF} {h base : Heap} {mg : Str → Option Value} {w : World} (X : K.In h) (G : h.Ns mainGlobals mg) (Y : SaysY fa fn ts xs vb w h K) (TA : TabA K base mg) : Tk PySem.Challenge.rw_leavesturned_k01_turnings_and_their_roun.prog base K mg w := by
  have c := Y.says.1.d
  have vv := Y.says.2
  obtain ⟨v0, vv⟩ := Bool.and_eq_true_iff.mp vv
  obtain ⟨v1, vv⟩ := Bool.and_eq_true_iff.mp vv
  obtain ⟨v2, vv⟩ := Bool.and_eq_true_iff.mp vv
  obtain ⟨v3, vv⟩ := Bool.and_eq_true_iff.mp vv
  obtain ⟨v4, vv⟩ := Bool.and_eq_true_iff.mp vv
  obtain ⟨v5, vv⟩ := Bool.and_eq_true_iff.mp vv
  obtain ⟨v6, vv⟩ := Bool.and_eq_true_iff.mp vv
  have l_BadTurning := leaf_ok v0 (Y.ini ("BadTurning", inW (defArgs s_BadTurning) (defBody s_BadTurning) (defScope s_BadTurning)) (by simp [xs])) (by kernel_rfl)
  have t_BadTurning : TextK (defArgs s_BadTurning) (defScope s_BadTurning) "self" ["part"] := text_by (by decide +kernel) ⟨_, rfl, rfl⟩ (fun _ _ _ _ _ _ _ _ _ _ us hl => match us, hl with | [_, _], _ => rfl)
  have l_BadNumber := leaf_ok v1 (Y.ini ("BadNumber", inW (defArgs s_BadNumber) (defBody s_BadNumber) (defScope s_BadNumber)) (by simp [xs])) (by kernel_rfl)
  have t_BadNumber : TextK (defArgs s_BadNumber) (defScope s_BadNumber) "self" ["part"] := text_by (by decide +kernel) ⟨_, rfl, rfl⟩ (fun _ _ _ _ _ _ _ _ _ _ us hl => match us, hl with | [_, _], _ => rfl)
  exact ⟨c.def_ 0 (d := ⟨("is_integer", none), "is_integer", "is_integer", defArgs s_is_integer, defBody s_is_integer, defScope s_is_integer, [], []⟩) rfl,
    He.glo_ok X G (c.fact 0 (f := .glo "is_integer") rfl),
    c.def_ 1 (d := ⟨("is_within", none), "is_within", "is_within", defArgs s_is_within, defBody s_is_within, defScope s_is_within, [], []⟩) rfl,
    He.glo_ok X G (c.fact 1 (f := .glo "is_within") rfl),
    c.def_ 2 (d := ⟨("is_listed", none), "is_listed", "is_listed", defArgs s_is_listed, defBody s_is_listed, defScope s_is_listed, [], []⟩) rfl,
    He.glo_ok X G (c.fact 2 (f := .glo "is_listed") rfl),
    c.def_ 3 (d := ⟨("is_row", none), "is_row", "is_row", defArgs s_is_row, defBody s_is_row, defScope s_is_row, [], []⟩) rfl,
    He.glo_ok X G (c.fact 3 (f := .glo "is_row") rfl),
    c.def_ 4 (d := ⟨("still_of", none), "still_of", "still_of", defArgs s_still_of, defBody s_still_of, defScope s_still_of, [], []⟩) rfl,
    He.glo_ok X G (c.fact 4 (f := .glo "still_of") rfl),
    c.def_ 5 (d := ⟨("then", none), "then", "then", defArgs s_then, defBody s_then, defScope s_then, [], []⟩) rfl,
    He.glo_ok X G (c.fact 5 (f := .glo "then") rfl),
    c.def_ 6 (d := ⟨("back_of", none), "back_of", "back_of", defArgs s_back_of, defBody s_back_of, defScope s_back_of, [], []⟩) rfl,
    He.glo_ok X G (c.fact 6 (f := .glo "back_of") rfl),
    c.def_ 7 (d := ⟨("rounds_of", none), "rounds_of", "rounds_of", defArgs s_rounds_of, defBody s_rounds_of, defScope s_rounds_of, [], []⟩) rfl,
    He.glo_ok X G (c.fact 7 (f := .glo "rounds_of") rfl),
    c.def_ 8 (d := ⟨("is_turning", none), "is_turning", "is_turning", defArgs s_is_turning, defBody s_is_turning, defScope s_is_turning, [], []⟩) rfl,
    He.glo_ok X G (c.fact 8 (f := .glo "is_turning") rfl),
    c.def_ 9 (d := ⟨("need_many", none), "need_many", "need_many", defArgs s_need_many, defBody s_need_many, defScope s_need_many, [.str "many"], []⟩) rfl,
    He.glo_ok X G (c.fact 9 (f := .glo "need_many") rfl),
    c.def_ 10 (d := ⟨("need_turning", none), "need_turning", "need_turning", defArgs s_need_turning, defBody s_need_turning, defScope s_need_turning, [], []⟩) rfl,
    He.glo_ok X G (c.fact 10 (f := .glo "need_turning") rfl),
    c.def_ 11 (d := ⟨("length_of", none), "length_of", "length_of", defArgs s_length_of, defBody s_length_of, defScope s_length_of, [], []⟩) rfl,
    He.glo_ok X G (c.fact 11 (f := .glo "length_of") rfl),
    c.def_ 12 (d := ⟨("need_pair", none), "need_pair", "need_pair", defArgs s_need_pair, defBody s_need_pair, defScope s_need_pair, [], []⟩) rfl,
    He.glo_ok X G (c.fact 12 (f := .glo "need_pair") rfl),
    c.def_ 13 (d := ⟨("still", none), "still", "still", defArgs s_still, defBody s_still, defScope s_still, [], []⟩) rfl,
    He.glo_ok X G (c.fact 13 (f := .glo "still") rfl),
    c.def_ 14 (d := ⟨("product", none), "product", "product", defArgs s_product, defBody s_product, defScope s_product, [], []⟩) rfl,
    He.glo_ok X G (c.fact 14 (f := .glo "product") rfl),
    c.def_ 15 (d := ⟨("backward", none), "backward", "backward", defArgs s_backward, defBody s_backward, defScope s_backward, [], []⟩) rfl,
    He.glo_ok X G (c.fact 15 (f := .glo "backward") rfl),
    c.def_ 16 (d := ⟨("rounds", none), "rounds", "rounds", defArgs s_rounds, defBody s_rounds, defScope s_rounds, [], []⟩) rfl,
    He.glo_ok X G (c.fact 16 (f := .glo "rounds") rfl),
    c.def_ 17 (d := ⟨("_law_pen", none), "_law_pen", "_law_pen", defArgs s__law_pen, defBody s__law_pen, defScope s__law_pen, [], []⟩) rfl,
    He.glo_ok X G (c.fact 17 (f := .glo "_law_pen") rfl),
    c.def_ 18 (d := ⟨("_law_draw", none), "_law_draw", "_law_draw", defArgs s__law_draw, defBody s__law_draw, defScope s__law_draw, [], []⟩) rfl,
    He.glo_ok X G (c.fact 18 (f := .glo "_law_draw") rfl),
    c.def_ 19 (d := ⟨("_law_pick", none), "_law_pick", "_law_pick", defArgs s__law_pick, defBody s__law_pick, defScope s__law_pick, [], []⟩) rfl,
    He.glo_ok X G (c.fact 19 (f := .glo "_law_pick") rfl),
    c.def_ 20 (d := ⟨("_law_mixed", none), "_law_mixed", "_law_mixed", defArgs s__law_mixed, defBody s__law_mixed, defScope s__law_mixed, [], []⟩) rfl,
    He.glo_ok X G (c.fact 20 (f := .glo "_law_mixed") rfl),
    c.def_ 21 (d := ⟨("_law_back", none), "_law_back", "_law_back", defArgs s__law_back, defBody s__law_back, defScope s__law_back, [], []⟩) rfl,
    He.glo_ok X G (c.fact 21 (f := .glo "_law_back") rfl),
    c.def_ 22 (d := ⟨("_law_heard", none), "_law_heard", "_law_heard", defArgs s__law_heard, defBody s__law_heard, defScope s__law_heard, [], []⟩) rfl,
    He.glo_ok X G (c.fact 22 (f := .glo "_law_heard") rfl),
    c.def_ 23 (d := ⟨("_law_rounds", none), "_law_rounds", "_law_rounds", defArgs s__law_rounds, defBody s__law_rounds, defScope s__law_rounds, [], []⟩) rfl,
    He.glo_ok X G (c.fact 23 (f := .glo "_law_rounds") rfl),
    c.def_ 24 (d := ⟨("law", none), "law", "law", defArgs s_law, defBody s_law, defScope s_law, [], []⟩) rfl,
    He.glo_ok X G (c.fact 24 (f := .glo "law") rfl),
    He.free_ok X G (c.fact 25 (f := .free "abs") rfl),
    He.free_ok X G (c.fact 26 (f := .free "all") rfl),
    He.free_ok X G (c.fact 27 (f := .free "bool") rfl),
    He.free_ok X G (c.fact 28 (f := .free "enumerate") rfl),
    He.free_ok X G (c.fact 29 (f := .free "int") rfl),
    He.free_ok X G (c.fact 30 (f := .free "isinstance") rfl),
    He.free_ok X G (c.fact 31 (f := .free "len") rfl),
    He.free_ok X G (c.fact 32 (f := .free "list") rfl),
    He.free_ok X G (c.fact 33 (f := .free "range") rfl),
    He.free_ok X G (c.fact 34 (f := .free "repr") rfl),
    He.free_ok X G (c.fact 35 (f := .free "sorted") rfl),
    He.free_ok X G (c.fact 36 (f := .free "tuple") rfl),
    He.int_ok X G (c.fact 37 (f := .int "MOST_SPOTS" 20) rfl),
    He.glo_ok X G (c.fact 38 (f := .glo "BadLot") rfl),
    He.glo_ok X G (c.fact 39 (f := .glo "BadTurning") rfl),
    He.glo_ok X G (c.fact 40 (f := .glo "BadNest") rfl),
    He.glo_ok X G (c.fact 41 (f := .glo "BadLabels") rfl),
    He.glo_ok X G (c.fact 42 (f := .glo "BadNumber") rfl),
    He.glo_ok X G (c.fact 43 (f := .glo "BadValue") rfl),
    He.glo_ok X G (c.fact 44 (f := .glo "BadWeb") rfl),
    He.glo_ok X G (c.fact 45 (f := .glo "BadPuzzle") rfl),
    He.glo_ok X G (c.fact 46 (f := .glo "BadPaper") rfl),
    He.glo_ok X G (c.fact 47 (f := .glo "Misfit") rfl),
    He.glo_ok X G (c.fact 48 (f := .glo "Nothing") rfl),
    He.glo_ok X G (c.fact 49 (f := .glo "BadCommand") rfl),
    He.glo_ok X G (c.fact 50 (f := .glo "NoName") rfl),
    He.glo_ok X G (c.fact 51 (f := .glo "BadText") rfl),
    He.glo_ok X G (c.fact 52 (f := .glo "TooMany") rfl),
    He.glo_ok X G (c.fact 53 (f := .glo "LeafError") rfl),
    xcls1 l_BadTurning.1 t_BadTurning rfl ⟨_, fun _ _ _ _ _ => rfl, fun _ _ _ _ _ => rfl⟩ (l_BadTurning.2 "part" (by simp)),
    xcls1 l_BadNumber.1 t_BadNumber rfl ⟨_, fun _ _ _ _ _ => rfl, fun _ _ _ _ _ => rfl⟩ (l_BadNumber.2 "part" (by simp)),
    excSB_ok v2,
    noAtB_ok (excSB_ok v2) v3 (by simp),
    noAtB_ok (excSB_ok v2) v3 (by simp),
    noAtB_ok (excSB_ok v2) v3 (by simp),
    noAtB_ok (excSB_ok v2) v3 (by simp),
    noAtB_ok (excSB_ok v2) v3 (by simp),
    noAtB_ok (excSB_ok v2) v3 (by simp),
    fun x hx => by simpa using List.all_eq_true.mp v4 x hx,
    TA,
    v5,
    v6⟩
theorem fin (hF : ∀ {w : World} {K : KF} {mg : Str → Option Value} {base : Heap}, Tk PySem.Challenge.rw_leavesturned_k01_turnings_and_their_roun.prog base K mg w → ∃ fd, FunD K "law" "law" (defArgs s_law) (defBody s_law) (defScope s_law) [] [] (He.ga K "law") fd ∧ FnG PySem.Challenge.rw_leavesturned_k01_turnings_and_their_roun.prog w K mg base (L2N.CX PySem.Challenge.rw_leavesturned_k01_turnings_and_their_roun.prog w) 230 (He.ga K "law") fd ["script"] (spLaw K)) : PySem.Challenge.rw_leavesturned_k01_turnings_and_their_roun.Holds := by
  w_on; o_law
  refine HandSHeadRun.head_any (r := R) (q := PySem.W.view R.prog [45]) (H := hk) (ob := ob) (M := 20000) (loose := LOOSE) (d := HandSHeadRun.topDef R.prog 45) (kwd := []) ob_eq
    (by kernel_rfl) (fun s => by kernel_rfl) run (by kernel_rfl) (by kernel_rfl) (by kernel_rfl) (by rfl) (by first | assumption | decide +kernel) (by decide +kernel) ⟨rfl, rfl, rfl, rfl, rfl, by decide +kernel⟩ ?hw ?hc
  case hw => w_witness2
  case hc =>
    refine walk_ofT (l := PySem.Challenge.rw_leavesturned_k01_turnings_and_their_roun) (n := 63) (k := 230) (x := "script") (CX := fun w => L2N.CX PySem.Challenge.rw_leavesturned_k01_turnings_and_their_roun.prog w) rfl (by decide) (by kernel_rfl) ⟨rfl, by decide, by decide⟩ ?F (fun _ _ _ _ _ z => noXN z)
    intro w mg fa0 h Y G hmg0
    obtain ⟨K, KX, c⟩ := Y
    have hmg : mg ("law" : PySem.Str) = some (.ref fa0) := by
      have e : (HandSHeadRun.topDef R.prog 45).name = ("law" : PySem.Str) := by kernel_rfl
      rw [← e]
      exact hmg0
    have e := (He.glo_ok KX G (c.says.1.d.fact 24 (f := .glo "law") rfl)).symm.trans hmg
    cases e
    obtain ⟨fd, FD⟩ := c.says.1.d.def_ 24 (d := ⟨("law", none), "law", "law", defArgs s_law, defBody s_law, defScope s_law, [], []⟩) rfl
    have FD : FunD K "law" "law" (defArgs s_law) (defBody s_law) (defScope s_law) [] [] (He.ga K "law") fd := FD
    refine ⟨K, fd, spLaw K, KX, c.tab, fun s v => FD.bindsA (ps := ["script"]) (fun _ _ _ _ _ _ us hl => match us, hl with | [_], _ => rfl) s [v] rfl, fun H a ns hl te hS => ⟨a, ns, rfl, hS, te, fun _ => rfl⟩, fun base _ _ TA => ?_⟩
    obtain ⟨fd2, FD2, G2⟩ := hF (base := base) (tk KX G c TA)
    rw [FunD.uniq FD FD2] at G2
    exact G2
end L01
end
section
set_option maxRecDepth 100000
set_option maxHeartbeats 1000000
namespace L01
open PySem PySem.Spec PyProof.Rows L2 DS DS.Nest
local macro_rules
  | `(tactic| simp_all only [$ts,*]) => `(tactic| simp only [sRet, sIf, sSeq, sSet, sPar, sDrop, sNext, sNever, sAsg, sAsgW, sFor, fOp, fCall, fG, fH, fO, fUn, fChain, DS.fIf, tOp2, fTrue, fNot, fAnd, fOr, DS.gAnd, DS.gOr, DS.gNot, fTup, fLst, aCons, aNil, fOwn, fOwnK, fSeq, gC, DS.gName, hName, with1, with2, withs, Hd.get, startD, Dst.put, twSub, twSeq, twsCons, twsNil, twTg, tgName, tgSeqN, tgsCons, tgsNil, withO, withL, ownL, fYes, gRev, fRg1, fRg2, fLstRg, fTupRg, fR1, fR2,
  gAdd, DS.gSub, gMul, gMod, gNeg, gLt, gLe, gGt, gGe, gEq, gNe, gIx, gLen, gLst1, gTup1, gInt1, gAbs, gIsi, tyOf, tysOf, isT, gAppend, gExtend, gPop, gPopAt, fMt, fLc, fLc2, restore, wipeD, atI_0, atI_1,
  List.map_cons, List.map_nil, List.length_cons, List.length_nil, List.replicate_succ, List.replicate_zero, List.getElem?_cons_zero, List.getElem?_cons_succ, List.getElem?_nil, List.set_cons_zero, List.set_cons_succ, List.set_nil, List.nil_append, List.cons_append, List.append_nil, Nat.reduceAdd, Nat.reduceSub, $ts,*])
section
variable {P : Program} {w : World} {K : KF} {mg : Str → Option Value} {base : Heap}
theorem o_is_integer (T : Tk P base K mg w) (k : Nat) : OkF P w K mg base "is_integer" (defArgs s_is_integer) (defBody s_is_integer) (defScope s_is_integer) [] ["value"] (k + 1) C_is_integer := ok_is_integer (k := k + 0) T  (fun ds n Q Ed h => by have h : C_is_integer ds n Q Ed := h; (first | (obtain ⟨_, hh, _⟩ := h; rw [hh]; rfl) | (obtain ⟨_, _, hh, _⟩ := h; rw [hh]; rfl) | (obtain ⟨_, _, _, hh, _⟩ := h; rw [hh]; rfl) | (obtain ⟨_, _, _, _, hh, _⟩ := h; rw [hh]; rfl) | (obtain ⟨_, _, _, _, _, hh, _⟩ := h; rw [hh]; rfl) | (obtain ⟨_, _, _, _, _, _, hh, _⟩ := h; rw [hh]; rfl) | (obtain ⟨_, _, _, _, _, _, _, hh, _⟩ := h; rw [hh]; rfl) | (obtain ⟨_, _, _, _, _, _, _, _, hh, _⟩ := h; rw [hh]; rfl))) (fun ds n Q Ed h => c_is_integer h)
theorem o_is_within (T : Tk P base K mg w) (k : Nat) : OkF P w K mg base "is_within" (defArgs s_is_within) (defBody s_is_within) (defScope s_is_within) [] ["value", "least", "most"] (k + 2) C_within := ok_is_within (k := k + 1) T (o_is_integer T (k + 0)) (fun ds n Q Ed h => by have h : C_within ds n Q Ed := h; (first | (obtain ⟨_, hh, _⟩ := h; rw [hh]; rfl) | (obtain ⟨_, _, hh, _⟩ := h; rw [hh]; rfl) | (obtain ⟨_, _, _, hh, _⟩ := h; rw [hh]; rfl) | (obtain ⟨_, _, _, _, hh, _⟩ := h; rw [hh]; rfl) | (obtain ⟨_, _, _, _, _, hh, _⟩ := h; rw [hh]; rfl) | (obtain ⟨_, _, _, _, _, _, hh, _⟩ := h; rw [hh]; rfl) | (obtain ⟨_, _, _, _, _, _, _, hh, _⟩ := h; rw [hh]; rfl) | (obtain ⟨_, _, _, _, _, _, _, _, hh, _⟩ := h; rw [hh]; rfl))) (fun ds n Q Ed h => c_within h)
theorem o_is_listed (T : Tk P base K mg w) (k : Nat) : OkF P w K mg base "is_listed" (defArgs s_is_listed) (defBody s_is_listed) (defScope s_is_listed) [] ["value"] (k + 1) C_is_listed := ok_is_listed (k := k + 0) T  (fun ds n Q Ed h => by have h : C_is_listed ds n Q Ed := h; (first | (obtain ⟨_, hh, _⟩ := h; rw [hh]; rfl) | (obtain ⟨_, _, hh, _⟩ := h; rw [hh]; rfl) | (obtain ⟨_, _, _, hh, _⟩ := h; rw [hh]; rfl) | (obtain ⟨_, _, _, _, hh, _⟩ := h; rw [hh]; rfl) | (obtain ⟨_, _, _, _, _, hh, _⟩ := h; rw [hh]; rfl) | (obtain ⟨_, _, _, _, _, _, hh, _⟩ := h; rw [hh]; rfl) | (obtain ⟨_, _, _, _, _, _, _, hh, _⟩ := h; rw [hh]; rfl) | (obtain ⟨_, _, _, _, _, _, _, _, hh, _⟩ := h; rw [hh]; rfl))) (fun ds n Q Ed h => c_is_listed h)
theorem o_is_row (T : Tk P base K mg w) (k : Nat) : OkF P w K mg base "is_row" (defArgs s_is_row) (defBody s_is_row) (defScope s_is_row) [] ["value", "many"] (k + 2) C_row := ok_is_row (k := k + 1) T (o_is_listed T (k + 0)) (o_is_integer T (k + 0)) (fun ds n Q Ed h => by have h : C_row ds n Q Ed := h; (first | (obtain ⟨_, hh, _⟩ := h; rw [hh]; rfl) | (obtain ⟨_, _, hh, _⟩ := h; rw [hh]; rfl) | (obtain ⟨_, _, _, hh, _⟩ := h; rw [hh]; rfl) | (obtain ⟨_, _, _, _, hh, _⟩ := h; rw [hh]; rfl) | (obtain ⟨_, _, _, _, _, hh, _⟩ := h; rw [hh]; rfl) | (obtain ⟨_, _, _, _, _, _, hh, _⟩ := h; rw [hh]; rfl) | (obtain ⟨_, _, _, _, _, _, _, hh, _⟩ := h; rw [hh]; rfl) | (obtain ⟨_, _, _, _, _, _, _, _, hh, _⟩ := h; rw [hh]; rfl))) (fun ds n Q Ed h => c_row h)
theorem o_still_of (T : Tk P base K mg w) (k : Nat) : OkF P w K mg base "still_of" (defArgs s_still_of) (defBody s_still_of) (defScope s_still_of) [] ["many"] (k + 1) C_still_of := ok_still_of (k := k + 0) T  (fun ds n Q Ed h => by have h : C_still_of ds n Q Ed := h; (first | (obtain ⟨_, hh, _⟩ := h; rw [hh]; rfl) | (obtain ⟨_, _, hh, _⟩ := h; rw [hh]; rfl) | (obtain ⟨_, _, _, hh, _⟩ := h; rw [hh]; rfl) | (obtain ⟨_, _, _, _, hh, _⟩ := h; rw [hh]; rfl) | (obtain ⟨_, _, _, _, _, hh, _⟩ := h; rw [hh]; rfl) | (obtain ⟨_, _, _, _, _, _, hh, _⟩ := h; rw [hh]; rfl) | (obtain ⟨_, _, _, _, _, _, _, hh, _⟩ := h; rw [hh]; rfl) | (obtain ⟨_, _, _, _, _, _, _, _, hh, _⟩ := h; rw [hh]; rfl))) (fun ds n Q Ed h => c_still_of h)
theorem o_then (T : Tk P base K mg w) (k : Nat) : OkF P w K mg base "then" (defArgs s_then) (defBody s_then) (defScope s_then) [] ["one", "other"] (k + 1) C_then := ok_then (k := k + 0) T  (fun ds n Q Ed h => by have h : C_then ds n Q Ed := h; (first | (obtain ⟨_, hh, _⟩ := h; rw [hh]; rfl) | (obtain ⟨_, _, hh, _⟩ := h; rw [hh]; rfl) | (obtain ⟨_, _, _, hh, _⟩ := h; rw [hh]; rfl) | (obtain ⟨_, _, _, _, hh, _⟩ := h; rw [hh]; rfl) | (obtain ⟨_, _, _, _, _, hh, _⟩ := h; rw [hh]; rfl) | (obtain ⟨_, _, _, _, _, _, hh, _⟩ := h; rw [hh]; rfl) | (obtain ⟨_, _, _, _, _, _, _, hh, _⟩ := h; rw [hh]; rfl) | (obtain ⟨_, _, _, _, _, _, _, _, hh, _⟩ := h; rw [hh]; rfl))) (fun ds n Q Ed h => c_then h)
theorem o_back_of (T : Tk P base K mg w) (k : Nat) : OkF P w K mg base "back_of" (defArgs s_back_of) (defBody s_back_of) (defScope s_back_of) [] ["one"] (k + 1) C_back_of := ok_back_of (k := k + 0) T  (fun ds n Q Ed h => by have h : C_back_of ds n Q Ed := h; (first | (obtain ⟨_, hh, _⟩ := h; rw [hh]; rfl) | (obtain ⟨_, _, hh, _⟩ := h; rw [hh]; rfl) | (obtain ⟨_, _, _, hh, _⟩ := h; rw [hh]; rfl) | (obtain ⟨_, _, _, _, hh, _⟩ := h; rw [hh]; rfl) | (obtain ⟨_, _, _, _, _, hh, _⟩ := h; rw [hh]; rfl) | (obtain ⟨_, _, _, _, _, _, hh, _⟩ := h; rw [hh]; rfl) | (obtain ⟨_, _, _, _, _, _, _, hh, _⟩ := h; rw [hh]; rfl) | (obtain ⟨_, _, _, _, _, _, _, _, hh, _⟩ := h; rw [hh]; rfl))) (fun ds n Q Ed h => c_back_of h)
theorem o_rounds_of (T : Tk P base K mg w) (k : Nat) : OkF P w K mg base "rounds_of" (defArgs s_rounds_of) (defBody s_rounds_of) (defScope s_rounds_of) [] ["one"] (k + 1) C_rounds_of := ok_rounds_of (k := k + 0) T  (fun ds n Q Ed h => by have h : C_rounds_of ds n Q Ed := h; (first | (obtain ⟨_, hh, _⟩ := h; rw [hh]; rfl) | (obtain ⟨_, _, hh, _⟩ := h; rw [hh]; rfl) | (obtain ⟨_, _, _, hh, _⟩ := h; rw [hh]; rfl) | (obtain ⟨_, _, _, _, hh, _⟩ := h; rw [hh]; rfl) | (obtain ⟨_, _, _, _, _, hh, _⟩ := h; rw [hh]; rfl) | (obtain ⟨_, _, _, _, _, _, hh, _⟩ := h; rw [hh]; rfl) | (obtain ⟨_, _, _, _, _, _, _, hh, _⟩ := h; rw [hh]; rfl) | (obtain ⟨_, _, _, _, _, _, _, _, hh, _⟩ := h; rw [hh]; rfl))) (fun ds n Q Ed h => c_rounds_of h)
theorem o_is_turning (T : Tk P base K mg w) (k : Nat) : OkF P w K mg base "is_turning" (defArgs s_is_turning) (defBody s_is_turning) (defScope s_is_turning) [] ["value", "many"] (k + 3) C_is_turning := ok_is_turning (k := k + 2) T (o_is_row T (k + 0)) (fun ds n Q Ed h => by have h : C_is_turning ds n Q Ed := h; (first | (obtain ⟨_, hh, _⟩ := h; rw [hh]; rfl) | (obtain ⟨_, _, hh, _⟩ := h; rw [hh]; rfl) | (obtain ⟨_, _, _, hh, _⟩ := h; rw [hh]; rfl) | (obtain ⟨_, _, _, _, hh, _⟩ := h; rw [hh]; rfl) | (obtain ⟨_, _, _, _, _, hh, _⟩ := h; rw [hh]; rfl) | (obtain ⟨_, _, _, _, _, _, hh, _⟩ := h; rw [hh]; rfl) | (obtain ⟨_, _, _, _, _, _, _, hh, _⟩ := h; rw [hh]; rfl) | (obtain ⟨_, _, _, _, _, _, _, _, hh, _⟩ := h; rw [hh]; rfl))) (fun ds n Q Ed h => c_is_turning h)
theorem o_need_many (T : Tk P base K mg w) (k : Nat) : OkF P w K mg base "need_many" (defArgs s_need_many) (defBody s_need_many) (defScope s_need_many) [.str "many"] ["value", "part"] (k + 4) C_need_many := ok_need_many (k := k + 2) T (o_is_within T (k + 0)) (fun ds n Q Ed h => by have h : C_need_many ds n Q Ed := h; (first | (obtain ⟨_, hh, _⟩ := h; rw [hh]; rfl) | (obtain ⟨_, _, hh, _⟩ := h; rw [hh]; rfl) | (obtain ⟨_, _, _, hh, _⟩ := h; rw [hh]; rfl) | (obtain ⟨_, _, _, _, hh, _⟩ := h; rw [hh]; rfl) | (obtain ⟨_, _, _, _, _, hh, _⟩ := h; rw [hh]; rfl) | (obtain ⟨_, _, _, _, _, _, hh, _⟩ := h; rw [hh]; rfl) | (obtain ⟨_, _, _, _, _, _, _, hh, _⟩ := h; rw [hh]; rfl) | (obtain ⟨_, _, _, _, _, _, _, _, hh, _⟩ := h; rw [hh]; rfl))) (fun ds n Q Ed h => c_need_many h)
theorem o_need_turning (T : Tk P base K mg w) (k : Nat) : OkF P w K mg base "need_turning" (defArgs s_need_turning) (defBody s_need_turning) (defScope s_need_turning) [] ["value", "many", "part"] (k + 5) C_need_turning := ok_need_turning (k := k + 3) T (o_is_turning T (k + 0)) (fun ds n Q Ed h => by have h : C_need_turning ds n Q Ed := h; (first | (obtain ⟨_, hh, _⟩ := h; rw [hh]; rfl) | (obtain ⟨_, _, hh, _⟩ := h; rw [hh]; rfl) | (obtain ⟨_, _, _, hh, _⟩ := h; rw [hh]; rfl) | (obtain ⟨_, _, _, _, hh, _⟩ := h; rw [hh]; rfl) | (obtain ⟨_, _, _, _, _, hh, _⟩ := h; rw [hh]; rfl) | (obtain ⟨_, _, _, _, _, _, hh, _⟩ := h; rw [hh]; rfl) | (obtain ⟨_, _, _, _, _, _, _, hh, _⟩ := h; rw [hh]; rfl) | (obtain ⟨_, _, _, _, _, _, _, _, hh, _⟩ := h; rw [hh]; rfl))) (fun ds n Q Ed h => c_need_turning h)
theorem o_length_of (T : Tk P base K mg w) (k : Nat) : OkF P w K mg base "length_of" (defArgs s_length_of) (defBody s_length_of) (defScope s_length_of) [] ["value"] (k + 4) C_length := ok_length_of (k := k + 3) T (o_is_turning T (k + 0)) (fun ds n Q Ed h => by have h : C_length ds n Q Ed := h; (first | (obtain ⟨_, hh, _⟩ := h; rw [hh]; rfl) | (obtain ⟨_, _, hh, _⟩ := h; rw [hh]; rfl) | (obtain ⟨_, _, _, hh, _⟩ := h; rw [hh]; rfl) | (obtain ⟨_, _, _, _, hh, _⟩ := h; rw [hh]; rfl) | (obtain ⟨_, _, _, _, _, hh, _⟩ := h; rw [hh]; rfl) | (obtain ⟨_, _, _, _, _, _, hh, _⟩ := h; rw [hh]; rfl) | (obtain ⟨_, _, _, _, _, _, _, hh, _⟩ := h; rw [hh]; rfl) | (obtain ⟨_, _, _, _, _, _, _, _, hh, _⟩ := h; rw [hh]; rfl))) (fun ds n Q Ed h => c_length h)
theorem o_need_pair (T : Tk P base K mg w) (k : Nat) : OkF P w K mg base "need_pair" (defArgs s_need_pair) (defBody s_need_pair) (defScope s_need_pair) [] ["one", "other"] (k + 7) C_need_pair := ok_need_pair (k := k + 5) T (o_need_turning T (k + 0)) (o_length_of T (k + 1)) (fun ds n Q Ed h => by have h : C_need_pair ds n Q Ed := h; (first | (obtain ⟨_, hh, _⟩ := h; rw [hh]; rfl) | (obtain ⟨_, _, hh, _⟩ := h; rw [hh]; rfl) | (obtain ⟨_, _, _, hh, _⟩ := h; rw [hh]; rfl) | (obtain ⟨_, _, _, _, hh, _⟩ := h; rw [hh]; rfl) | (obtain ⟨_, _, _, _, _, hh, _⟩ := h; rw [hh]; rfl) | (obtain ⟨_, _, _, _, _, _, hh, _⟩ := h; rw [hh]; rfl) | (obtain ⟨_, _, _, _, _, _, _, hh, _⟩ := h; rw [hh]; rfl) | (obtain ⟨_, _, _, _, _, _, _, _, hh, _⟩ := h; rw [hh]; rfl))) (fun ds n Q Ed h => c_need_pair h)
theorem o_still (T : Tk P base K mg w) (k : Nat) : OkF P w K mg base "still" (defArgs s_still) (defBody s_still) (defScope s_still) [] ["many"] (k + 5) C_still := ok_still (k := k + 4) T (o_still_of T (k + 3)) (o_need_many T (k + 0)) (fun ds n Q Ed h => by have h : C_still ds n Q Ed := h; (first | (obtain ⟨_, hh, _⟩ := h; rw [hh]; rfl) | (obtain ⟨_, _, hh, _⟩ := h; rw [hh]; rfl) | (obtain ⟨_, _, _, hh, _⟩ := h; rw [hh]; rfl) | (obtain ⟨_, _, _, _, hh, _⟩ := h; rw [hh]; rfl) | (obtain ⟨_, _, _, _, _, hh, _⟩ := h; rw [hh]; rfl) | (obtain ⟨_, _, _, _, _, _, hh, _⟩ := h; rw [hh]; rfl) | (obtain ⟨_, _, _, _, _, _, _, hh, _⟩ := h; rw [hh]; rfl) | (obtain ⟨_, _, _, _, _, _, _, _, hh, _⟩ := h; rw [hh]; rfl))) (fun ds n Q Ed h => c_still h)
theorem o_product (T : Tk P base K mg w) (k : Nat) : OkF P w K mg base "product" (defArgs s_product) (defBody s_product) (defScope s_product) [] ["one", "other"] (k + 8) C_product := ok_product (k := k + 7) T (o_then T (k + 6)) (o_need_pair T (k + 0)) (fun ds n Q Ed h => by have h : C_product ds n Q Ed := h; (first | (obtain ⟨_, hh, _⟩ := h; rw [hh]; rfl) | (obtain ⟨_, _, hh, _⟩ := h; rw [hh]; rfl) | (obtain ⟨_, _, _, hh, _⟩ := h; rw [hh]; rfl) | (obtain ⟨_, _, _, _, hh, _⟩ := h; rw [hh]; rfl) | (obtain ⟨_, _, _, _, _, hh, _⟩ := h; rw [hh]; rfl) | (obtain ⟨_, _, _, _, _, _, hh, _⟩ := h; rw [hh]; rfl) | (obtain ⟨_, _, _, _, _, _, _, hh, _⟩ := h; rw [hh]; rfl) | (obtain ⟨_, _, _, _, _, _, _, _, hh, _⟩ := h; rw [hh]; rfl))) (fun ds n Q Ed h => c_product h)
theorem o_backward (T : Tk P base K mg w) (k : Nat) : OkF P w K mg base "backward" (defArgs s_backward) (defBody s_backward) (defScope s_backward) [] ["one"] (k + 6) C_backward := ok_backward (k := k + 4) T (o_back_of T (k + 3)) (o_length_of T (k + 0)) (fun ds n Q Ed h => by have h : C_backward ds n Q Ed := h; (first | (obtain ⟨_, hh, _⟩ := h; rw [hh]; rfl) | (obtain ⟨_, _, hh, _⟩ := h; rw [hh]; rfl) | (obtain ⟨_, _, _, hh, _⟩ := h; rw [hh]; rfl) | (obtain ⟨_, _, _, _, hh, _⟩ := h; rw [hh]; rfl) | (obtain ⟨_, _, _, _, _, hh, _⟩ := h; rw [hh]; rfl) | (obtain ⟨_, _, _, _, _, _, hh, _⟩ := h; rw [hh]; rfl) | (obtain ⟨_, _, _, _, _, _, _, hh, _⟩ := h; rw [hh]; rfl) | (obtain ⟨_, _, _, _, _, _, _, _, hh, _⟩ := h; rw [hh]; rfl))) (fun ds n Q Ed h => c_backward h)
theorem o_rounds (T : Tk P base K mg w) (k : Nat) : OkF P w K mg base "rounds" (defArgs s_rounds) (defBody s_rounds) (defScope s_rounds) [] ["one"] (k + 6) C_rounds := ok_rounds (k := k + 4) T (o_rounds_of T (k + 3)) (o_length_of T (k + 0)) (fun ds n Q Ed h => by have h : C_rounds ds n Q Ed := h; (first | (obtain ⟨_, hh, _⟩ := h; rw [hh]; rfl) | (obtain ⟨_, _, hh, _⟩ := h; rw [hh]; rfl) | (obtain ⟨_, _, _, hh, _⟩ := h; rw [hh]; rfl) | (obtain ⟨_, _, _, _, hh, _⟩ := h; rw [hh]; rfl) | (obtain ⟨_, _, _, _, _, hh, _⟩ := h; rw [hh]; rfl) | (obtain ⟨_, _, _, _, _, _, hh, _⟩ := h; rw [hh]; rfl) | (obtain ⟨_, _, _, _, _, _, _, hh, _⟩ := h; rw [hh]; rfl) | (obtain ⟨_, _, _, _, _, _, _, _, hh, _⟩ := h; rw [hh]; rfl))) (fun ds n Q Ed h => c_rounds h)
theorem o__law_draw (T : Tk P base K mg w) (k : Nat) : OkF P w K mg base "_law_draw" (defArgs s__law_draw) (defBody s__law_draw) (defScope s__law_draw) [] ["pen", "many"] (k + 1) C_draw := ok__law_draw T
theorem o__law_pick (T : Tk P base K mg w) (k : Nat) : OkF P w K mg base "_law_pick" (defArgs s__law_pick) (defBody s__law_pick) (defScope s__law_pick) [] ["pen", "some"] (k + 2) C_pick := ok__law_pick (k := k + 1) T (o__law_draw T (k + 0)) (fun ds n Q Ed h => by have h : C_pick ds n Q Ed := h; (first | (obtain ⟨_, hh, _⟩ := h; rw [hh]; rfl) | (obtain ⟨_, _, hh, _⟩ := h; rw [hh]; rfl) | (obtain ⟨_, _, _, hh, _⟩ := h; rw [hh]; rfl) | (obtain ⟨_, _, _, _, hh, _⟩ := h; rw [hh]; rfl) | (obtain ⟨_, _, _, _, _, hh, _⟩ := h; rw [hh]; rfl) | (obtain ⟨_, _, _, _, _, _, hh, _⟩ := h; rw [hh]; rfl) | (obtain ⟨_, _, _, _, _, _, _, hh, _⟩ := h; rw [hh]; rfl) | (obtain ⟨_, _, _, _, _, _, _, _, hh, _⟩ := h; rw [hh]; rfl))) (fun ds n Q Ed h => c_pick h)
theorem o__law_mixed (T : Tk P base K mg w) (k : Nat) : OkF P w K mg base "_law_mixed" (defArgs s__law_mixed) (defBody s__law_mixed) (defScope s__law_mixed) [] ["pen", "some"] (k + 2) C_mixed := ok__law_mixed (k := k + 1) T (o__law_draw T (k + 0)) (fun ds n Q Ed h => by have h : C_mixed ds n Q Ed := h; (first | (obtain ⟨_, hh, _⟩ := h; rw [hh]; rfl) | (obtain ⟨_, _, hh, _⟩ := h; rw [hh]; rfl) | (obtain ⟨_, _, _, hh, _⟩ := h; rw [hh]; rfl) | (obtain ⟨_, _, _, _, hh, _⟩ := h; rw [hh]; rfl) | (obtain ⟨_, _, _, _, _, hh, _⟩ := h; rw [hh]; rfl) | (obtain ⟨_, _, _, _, _, _, hh, _⟩ := h; rw [hh]; rfl) | (obtain ⟨_, _, _, _, _, _, _, hh, _⟩ := h; rw [hh]; rfl) | (obtain ⟨_, _, _, _, _, _, _, _, hh, _⟩ := h; rw [hh]; rfl))) (fun ds n Q Ed h => c_mixed h)
theorem o__law_back (T : Tk P base K mg w) (k : Nat) : OkF P w K mg base "_law_back" (defArgs s__law_back) (defBody s__law_back) (defScope s__law_back) [] ["one"] (k + 1) C_lback := ok__law_back (k := k + 0) T  (fun ds n Q Ed h => by have h : C_lback ds n Q Ed := h; (first | (obtain ⟨_, hh, _⟩ := h; rw [hh]; rfl) | (obtain ⟨_, _, hh, _⟩ := h; rw [hh]; rfl) | (obtain ⟨_, _, _, hh, _⟩ := h; rw [hh]; rfl) | (obtain ⟨_, _, _, _, hh, _⟩ := h; rw [hh]; rfl) | (obtain ⟨_, _, _, _, _, hh, _⟩ := h; rw [hh]; rfl) | (obtain ⟨_, _, _, _, _, _, hh, _⟩ := h; rw [hh]; rfl) | (obtain ⟨_, _, _, _, _, _, _, hh, _⟩ := h; rw [hh]; rfl) | (obtain ⟨_, _, _, _, _, _, _, _, hh, _⟩ := h; rw [hh]; rfl))) (fun ds n Q Ed h => c_lback h)
theorem o__law_rounds (T : Tk P base K mg w) (k : Nat) : OkF P w K mg base "_law_rounds" (defArgs s__law_rounds) (defBody s__law_rounds) (defScope s__law_rounds) [] ["one"] (k + 1) C_lrounds := ok__law_rounds (k := k + 0) T  (fun ds n Q Ed h => by have h : C_lrounds ds n Q Ed := h; (first | (obtain ⟨_, hh, _⟩ := h; rw [hh]; rfl) | (obtain ⟨_, _, hh, _⟩ := h; rw [hh]; rfl) | (obtain ⟨_, _, _, hh, _⟩ := h; rw [hh]; rfl) | (obtain ⟨_, _, _, _, hh, _⟩ := h; rw [hh]; rfl) | (obtain ⟨_, _, _, _, _, hh, _⟩ := h; rw [hh]; rfl) | (obtain ⟨_, _, _, _, _, _, hh, _⟩ := h; rw [hh]; rfl) | (obtain ⟨_, _, _, _, _, _, _, hh, _⟩ := h; rw [hh]; rfl) | (obtain ⟨_, _, _, _, _, _, _, _, hh, _⟩ := h; rw [hh]; rfl))) (fun ds n Q Ed h => c_lrounds h)
theorem whole : PySem.Challenge.rw_leavesturned_k01_turnings_and_their_roun.Holds := fin fun {w K mg base} T => ok_law (k := 227) T (o_still T (0 + 222)) (o_rounds T (0 + 221)) (o_backward T (0 + 221)) (o_product T (0 + 219)) (o__law_pick T (0 + 225)) (o__law_back T (0 + 226)) (o__law_rounds T (0 + 226)) (o__law_mixed T (0 + 225)) (ok__law_pen (k := 228) T) law_ok
end
end L01
end
theorem PySem.Challenge.cw_leavesturned_k01_turnings_and_their_roun_holds : PySem.Challenge.rw_leavesturned_k01_turnings_and_their_roun.Holds :=
  L01.whole
