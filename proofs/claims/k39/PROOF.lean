import PyProof.Rows.All
import Wide.All
import OpenK.AllK
import Wide.FinOn
import KE.KDflt
import HandS.Lambda
import HandS.SetFor
import HandS.Strs
import HandS.SetKeys
import PyProof.FactsAll.NoneType
import HandS.ForMost
import HandS.Exc
import HandS.WordsExc
import HandS.Defaults
import HandS.NoneIn
import HandS.Dict
import HandS.HeadHook1
import HandS.HeadHook4
import HandS.Style
import HandS.SortInts
import HandS.Conv
import HandS.ExcOwn
import HandS.More
import HandS.SetBool
import HandS.IsInst
import PyProof.Rows.FactsN_isinstance
import KE.KExcIs
import HandS.ExcIs
import HandS.ExcField
import HandS.ExcInit
import OpenK.KCls
import KE.KDictZip
import KE.GoesMore
import KE.KItemsList
import HandS.ListItems
import HandS.HeadWalk
import KE.KStateDown
import HandS.Ends
import HandS.Words
import HandS.Head0
import HandS.Head1
import HandS.Head2
import HandS.HeadEnd
import HandS.HeadHook2
import HandS.Iter
import KE.DataEq
import PySem.Challenge.RW_keyroll_k39_whole_holders_and_openers
set_option Elab.async false
set_option linter.all false
set_option maxRecDepth 100000
set_option maxHeartbeats 4000000
namespace KR
open PySem PySem.Spec PyProof.Rows L2 LamX
/-! ### a lambda with or without a default, made and called -/
abbrev lamQ (X : Cx) : Str := X.env.qual ++ "<lambda>"
abbrev lamClo (X : Cx) (scope : Scope) : List (Str × Addr) := cloFrom X.env.cells scope.names []
abbrev lamO (X : Cx) (params : Arguments) (body : Expr) (scope : Scope) (dV doc pm : Value) (c' : Addr) (ctv : Value) : Obj := PySem.W.kdv_obj "<lambda>" (lamQ X) params (.expr body) scope (lamClo X scope) dV doc pm c' ctv
/-- the told heap behind a making: as it stood, or with one code object more, the table longer by it -/
def Coded (H H1 : Hp) (P : Addr) (q : Str) (ps : Array Value) (pos : Pos) (c' : Addr) : Prop :=
  H1 = H ∨ (H c' = none ∧ c' ≠ P ∧ H1 = upd (upd H P (.tbl (ps ++ #[rawInt pos.line, rawInt pos.col, .ref c']))) c' (CodeO c' q))
section
variable {X : Cx} {pins : List (Addr × Obj)} {σ : L2.St} {H : Hp} {s : Shared}
theorem made {P c : Addr} {ps : Array Value} {params : Arguments} {body : Expr} {scope : Scope} {pos : Pos} {dV : Value} {Q E : Value → Shared → Prop} (I : Inv X pins σ H s) (TB : TabB X.base X.mg c P) (code : X.env.code = .ref c) (here : H P = some (.tbl ps)) (tri : TriplesOk ps.toList)
    (known : ∀ (p : Pos) (cv : Value), codeAmong p ps.toList = some cv → ∃ c', cv = .ref c' ∧ H c' = some (CodeO c' (lamQ X))) (caught : ∀ y ∈ scope.names, y.2 = .free → ∃ c, X.env.cells.lookup y.1 = some c)
    (k : ∀ (f c' : Addr) (doc pm ctv : Value) (H1 : Hp) (s1 : Shared), Inv X pins σ H1 s1 → (∀ b o, b ≠ P → s.heap.get? b = some o → s1.heap.get? b = some o) → s1.heap.get? f = some (lamO X params body scope dV doc pm c' ctv) → s.heap.objs.size ≤ f → H1 f = none →
      H1 c' = some (CodeO c' (lamQ X)) → Coded H H1 P (lamQ X) ps pos c' → (∀ b o, b ≠ P → s.heap.get? b = some o → H b = none → H1 b = none) → Q (.ref f) s1) :
    wpAny (model X.prog X.w) X.A (makeTail "<lambda>" (lamQ X) params (.expr body) scope X.env dV .none none pos pos.line) Q E s := by
  have at_P : s.heap.get? P = some { cls := .none, data := .fields ps } := I.hok P _ here
  have glob := I.mod.glob.keeps I.bk
  have cdh := TB.code.keeps I.bk
  have blt : s.heap.BuiltinsAt X.mg P := TB.bm.keeps I.bk
  cases seen : codeAmong pos ps.toList with
  | some cv =>
    obtain ⟨c', rfl, hc'⟩ := known pos cv seen
    refine PySem.W.kdv_makeTailHit (mg := X.mg) (closure_ok caught) I.ok.glob glob code cdh at_P tri seen blt fun ctv doc h1 tk keep more => ?_
    have keep2 : ∀ b o, s.heap.get? b = some o → (h1.push (lamO X params body scope dV doc ((X.mg "__name__").getD .none) c' ctv)).get? b = some o := fun b o e => Heap.get?_push_of_some _ (keep b o e)
    exact k h1.objs.size c' doc _ ctv H _ (I.kept keep2) (fun b o _ e => keep2 b o e) (Heap.get?_push_size _ rfl) more (I.hok.fresh more) hc' (.inl rfl) fun _ _ _ _ n => n
  | none =>
    refine PySem.W.kdv_makeTail (mg := X.mg) (closure_ok caught) I.ok.glob glob code cdh at_P tri seen TB.gP blt fun c' ctv doc h1 tk ext ge lt rec tb => ?_
    obtain ⟨c2, oc, vs, t, ec, g1, g2, g3⟩ := rec
    cases ec
    have fresh' : H c' = none := I.hok.fresh ge
    have apart : c' ≠ P := fun z => by rw [z, here] at fresh'; cases fresh'
    have more : s.heap.objs.size ≤ h1.objs.size := Nat.le_trans ge (Nat.le_of_lt lt)
    have keep2 : ∀ b o, b ≠ P → s.heap.get? b = some o → (h1.push (lamO X params body scope dV doc ((X.mg "__name__").getD .none) c' ctv)).get? b = some o := fun b o hb e => Heap.get?_push_of_some _ (ext b o hb e)
    have J := inv_table (t' := tk) (more := #[rawInt pos.line, rawInt pos.col, .ref c']) I here keep2 (Heap.get?_push_of_some _ tb) ge ⟨oc, vs, t, Heap.get?_push_of_some _ g1, g2, g3⟩
    refine k h1.objs.size c' doc _ ctv _ _ J keep2 (Heap.get?_push_size _ rfl) more ?_ upd_same (.inr ⟨fresh', apart, rfl⟩) fun b o np ob n => by
      have z : b ≠ c' := Nat.ne_of_lt (Nat.lt_of_lt_of_le (Heap.lt_size ob) ge)
      rw [upd_ne z, upd_ne np]; exact n
    have z1 : h1.objs.size ≠ c' := Nat.ne_of_gt lt
    have z2 : h1.objs.size ≠ P := Nat.ne_of_gt (Nat.lt_of_lt_of_le (Heap.lt_size at_P) more)
    rw [upd_ne z1, upd_ne z2]
    exact I.hok.fresh more
/-- lambda: .. -/
theorem lam_plain {params : Arguments} {body : Expr} {scope : Scope} {pos : Pos} {Q E : Value → Shared → Prop} (bare : defaultsOf params X.env = ([], []))
    (h : wpAny (model X.prog X.w) X.A (makeTail "<lambda>" (lamQ X) params (.expr body) scope X.env .none .none none pos pos.line) Q E s) : wpAny (model X.prog X.w) X.A (eval (.Lambda params body scope pos) X.env) Q E s := by
  refine PySem.W.kla_eval bare ?_
  rw [makeFunction_eq]
  simp only [List.zip_nil_right, List.filterMap_nil, List.isEmpty_nil, if_true, pure_bind]
  exact h
/-- lambda a=e: .. -/
theorem lam_one {params : Arguments} {body e : Expr} {scope : Scope} {pos : Pos} {Q E : Value → Shared → Prop} (one : params.defaults = [e]) (nokw : params.kw_defaults = [])
    (val : ∀ {Q : Value → Shared → Prop}, (∀ (u : Value) (s1 : Shared), Inv X pins σ H s1 → Q u s1) → wpAny (model X.prog X.w) X.A (eval e X.env) Q E s)
    (h : ∀ (u : Value) (s1 : Shared), Inv X pins σ H s1 → wpAny (model X.prog X.w) X.A (makeTail "<lambda>" (lamQ X) params (.expr body) scope X.env (.ref s1.heap.objs.size) .none none pos pos.line) Q E { s1 with heap := s1.heap.push (PySem.W.kdv_tup [u]) }) :
    wpAny (model X.prog X.w) X.A (eval (.Lambda params body scope pos) X.env) Q E s := by
  refine PySem.W.kdv_lam (by rw [one]; rfl) nokw ?_
  rw [one]
  refine PySem.W.kdv_all1 (val fun u s1 I1 => PySem.W.kdv_all0 ?_)
  rw [makeFunction_eq]
  simp only [List.zip_nil_right, List.filterMap_nil, List.isEmpty_nil, List.isEmpty_cons, if_true, Bool.false_eq_true, if_false, pure_bind]
  exact wpAny_bind (wpAny_newTextTuple (h u s1 I1))
end
/-- a lambda's names: captured ones, globals, parameters that its maker has not -/
structure LamU (sc scope : Scope) (N : List Str) : Prop where
  kind : scope.kind = .function
  co : scope.isCoroutine = false
  gen : scope.isGenerator = false
  nocell : ∀ y ∈ scope.names, y.2 ≠ .cell
  own : ∀ y ∈ scope.names, y.2 = .local → y.1 ∉ N
  free : ∀ y ∈ scope.names, y.2 = .free → sc.names.lookup y.1 = some .cell ∨ sc.names.lookup y.1 = some .free
def lamUB (sc scope : Scope) (N : List Str) : Bool := decide (scope.kind = .function) && (!scope.isCoroutine && (!scope.isGenerator && scope.names.all fun y => match y.2 with
  | .cell => false
  | .local => !N.contains y.1
  | .free => decide (sc.names.lookup y.1 = some .cell) || decide (sc.names.lookup y.1 = some .free)
  | _ => true))
theorem lamU_by {sc scope : Scope} {N : List Str} (h : lamUB sc scope N = true) : LamU sc scope N := by
  unfold lamUB at h
  rw [Bool.and_eq_true, Bool.and_eq_true, Bool.and_eq_true, Bool.not_eq_true', Bool.not_eq_true', decide_eq_true_eq, List.all_eq_true] at h
  obtain ⟨h1, h2, h3, h4⟩ := h
  refine ⟨h1, h2, h3, fun y hy e => ?_, fun y hy e hm => ?_, fun y hy e => ?_⟩
  · have := h4 y hy; rw [e] at this; cases this
  · have := h4 y hy
    rw [e] at this
    have c : N.contains y.1 = true := List.contains_iff_mem.mpr hm
    simp only [c] at this
    cases this
  · have := h4 y hy
    rw [e] at this
    simpa using this
section
variable {X : Cx} {pins : List (Addr × Obj)} {σ : L2.St} {H HZ : Hp} {s s1 : Shared}
/-- the lambda's captured names have their cells -/
theorem LamU.cells {scope : Scope} (L : LamU X.env.scope scope X.N) (ok : X.Ok) : ∀ y ∈ scope.names, y.2 = .free → ∃ c, X.env.cells.lookup y.1 = some c := fun y hy e => ok.has _ (L.free y hy e)
/-- the state at the begin of the lambda's body: what its maker knew of its names holds there -/
theorem lam_begin {A : Around} {outer : List Env} {E : XK} {scope : Scope} {f c' : Addr} {h1 : Heap} {tk : Nat} {loc : Str → Option Value} (I : Inv X pins σ H s) (L : LamU X.env.scope scope X.N) (e0 : Env0 X.prog X.w X.K X.mg X.base A outer s1 HZ) (calm : A.handled = none)
    (un : Un (frs X.stack) [] H HZ s.heap s1.heap) (ns : h1.Ns s1.heap.objs.size loc) (keep : ∀ b o, s1.heap.get? b = some o → h1.get? b = some o) : Inv (lamCx X A outer s1 HZ E scope f c') [] σ HZ { s1 with heap := h1, toks := tk } := by
  have cells := L.cells I.ok
  have back : ∀ {y : Str} {c : Addr}, (lamClo X scope).lookup y = some c → X.env.cells.lookup y = some c := fun {y c} e => by
    rcases cloFrom_mem (PySem.mem_of_lookup e) with z | ⟨g1, g2⟩
    · cases z
    · obtain ⟨c0, h0⟩ := cells _ g1 rfl
      have h0 : X.env.cells.lookup y = some c0 := h0
      have e2 : c = c0 := by
        have g2 : c = (X.env.cells.lookup y).getD 0 := g2
        rw [g2, h0]; rfl
      rw [e2]; exact h0
  have have_ : ∀ {y : Str}, scope.names.lookup y = some .free → ∃ c, (lamClo X scope).lookup y = some c := fun {y} e => mem_lookup (cloFrom_has (cells := X.env.cells) (acc := []) (PySem.mem_of_lookup e))
  have stay : ∀ {c : Addr} {v : Option Value}, H c = none → s.heap.IsCell c v → h1.IsCell c v := fun {c v} n z => by
    obtain ⟨o, g1, g2⟩ := z
    obtain ⟨sl, g3⟩ := un.any g1 n (by simp)
    exact ⟨_, keep _ _ g3, g2⟩
  have nocell : ∀ {y : Str}, scope.names.lookup y ≠ some .cell := fun {y} e => L.nocell _ (PySem.mem_of_lookup e) rfl
  have none_ : ∀ b : Addr, b ∉ (lamCx X A outer s1 HZ E scope f c').ex := fun b z => by cases z
  constructor
  · constructor
    · exact e0.mod
    · exact L.kind
    · rfl
    · rfl
    · exact Nat.le_refl _
    · exact fun y z c a b => I.ok.inj y z c (back a) (back b)
    · rintro y (z | z)
      · exact (nocell z).elim
      · exact have_ z
    · exact fun y c z _ => (nomatch (show false = true from z))
    · exact fun _ => calm
    · exact Around.frames_deeper e0.frames
    · exact .inr ⟨rfl, rfl⟩
    · exact fun b z => (none_ b z).elim
    · exact e0.bs
    · exact e0.bsz
    · exact fun b _ _ => none_ b
    · exact fun b z => (none_ b z).elim
    · exact e0.funs
    · exact e0.frf
  · rfl
  · exact e0.bare
  · exact Un.kept keep
  · refine ⟨_, ns, fun i y v a b d => ?_⟩
    have d : Vis scope y := d
    rcases d with z | z | z
    · exact (L.own _ (PySem.mem_of_lookup z) rfl (List.mem_of_getElem? a)).elim
    · exact (nocell z).elim
    · have fr := L.free _ (PySem.mem_of_lookup z) rfl
      obtain ⟨m, _, lk⟩ := I.loc
      obtain ⟨u, r, w⟩ := lk i y v a b (.inr fr)
      obtain ⟨c2, q2⟩ := have_ z
      have q3 := back q2
      refine ⟨u, r, .inr ⟨.inr z, c2, q2, ?_⟩⟩
      rcases w with ⟨w, _⟩ | ⟨_, c3, q4, w⟩
      · have w : X.env.scope.names.lookup y = some .local := w
        rcases fr with q | q
        · have q : X.env.scope.names.lookup y = some .cell := q
          rw [w] at q; cases q
        · have q : X.env.scope.names.lookup y = some .free := q
          rw [w] at q; cases q
      · rw [q3] at q4
        cases q4
        exact stay (I.freeC y _ q3) w
  · intro y c e
    obtain ⟨v, z⟩ := I.cell y c (back e)
    exact ⟨v, stay (I.freeC y c (back e)) z⟩
  · exact e0.hok.fresh (Nat.le_refl _)
  · intro y c e
    obtain ⟨v, o, g1, g2⟩ := I.cell y c (back e)
    exact un.free c o g1 (I.freeC y c (back e)) (by simp)
  · intro p hp
    cases hp
  · exact e0.hok.kept keep
  · exact I.len
/-- a(), in the def that was handed the lambda at f as its first argument -/
theorem lam_act {CXg : CXT} {Eg E : XK} {Ng : List Str} {qg a : Str} {sg scope : Scope} {g f c' : Addr} {cdg dV doc pm ctv : Value} {params : Arguments} {body : Expr} {k : Nat} {pn : List (Addr × Obj)} {xe : Value → Shared → Prop} {W : WX} {tb : TE} {p1 p2 : Pos} {bs : List (Str × Value)}
    (I : Inv X pins σ H s) (L : LamU X.env.scope scope X.N) (obj : s.heap.get? f = some (lamO X params body scope dV doc pm c' ctv)) (untold : H f = none) (noframe : f ∉ frs X.stack) (bsl : ∀ y ∈ bs, scope.names.lookup y.1 = some .local)
    (binds : ∀ s1 : Shared, (∀ b o, s.heap.get? b = some o → H b = none → b ∉ frs X.stack → s1.heap.get? b = some o) → BindsTo s1 (PySem.W.kdv_fn "<lambda>" (lamQ X) params (.expr body) scope (lamClo X scope) dV doc pm (.ref c') ctv) ⟨[], []⟩ bs)
    (tk : Takes ((cxOf CXg X.prog X.w X.K X.mg X.base Ng qg sg g cdg X.A X.stack s H Eg).tr pn xe) W) (hW : ∀ cls d σ' H', E cls d H' → W cls d σ' H') (room : Room (k + 1) (X.A.deeper (envOfC qg sg s.heap.objs.size g cdg)))
    (does : ∀ (A : Around) (outer : List Env) (s : Shared) (H : Hp), Room k (A.deeper (lamEnv X scope s.heap.objs.size f c')) → PE (lamCx X A outer s H E scope f c') body tb)
    (hN : Ng[0]? = some a) (hv : Vis sg a) (hd : (a == ("__debug__" : Str)) = false) (hcd : (a == ("__classdict__" : Str)) = false) :
    PE ((cxOf CXg X.prog X.w X.K X.mg X.base Ng qg sg g cdg X.A X.stack s H Eg).tr pn xe) (.Call (.Name a p1) [] [] p2)
      (fun σZ HZ Q => σZ[0]? = some (some (.ref f)) ∧ HZ c' = some (CodeO c' (lamQ X)) ∧ tb σ HZ Q) := by
  constructor
  rintro pinsZ sZ σZ HZ Q IZ ⟨at0, told, t0⟩
  refine wpAny_Call_Name_kw (thn ((pe_var (pos := p1) (i := 0) hN hv hd hcd).run pinsZ sZ σZ HZ (fun v H1 => v = .ref f ∧ H1 = HZ) IZ ⟨.ref f, at0, rfl, rfl⟩) ?_)
  rintro u s1 ⟨v, H1, I1, r1, rfl, rfl⟩
  obtain rfl : u = Value.ref f := r1
  have un : Un (frs X.stack) [] H H1 s.heap s1.heap := I1.base
  have keep1 : ∀ b o, s.heap.get? b = some o → H b = none → b ∉ frs X.stack → s1.heap.get? b = some o := fun b o e n m => un.keep b o e n m (fun z => nomatch z)
  have obj1 := keep1 f _ obj untold noframe
  refine PySem.W.callWith_F0 ⟨_, _, _, _, obj1⟩ (wpAny_call ?_)
  obtain ⟨⟨oc, vs, t, g1, g2, g3⟩, _, _⟩ := I1.hok c' _ told
  have ran : codeAny (model X.prog X.w) (X.A.deeper (envOfC qg sg s.heap.objs.size g cdg)) (.call (.ref f) ⟨[], []⟩) (CR (L2.CX X.prog X.w) (envOfC qg sg s.heap.objs.size g cdg :: X.stack) X.prog X.w H1 s1 Q E) s1 := by
    refine PySem.W.kla_callFunE room.depth obj1 rfl L.co L.gen rfl ⟨c', oc, vs, t, rfl, g1, g2, g3⟩ (binds s1 keep1 _ _ _ _ ?_)
    refine wpAny_newFunctionEnv L.nocell bsl (fun h1 ns sb => ⟨I1.nolimit.fresh _ sb, PySem.W.kla_codeExpr ?_⟩) L.kind
    have keep2 : ∀ b o, s1.heap.get? b = some o → h1.get? b = some o := fun b o e => sb.extBut b o (Nat.ne_of_lt (Heap.lt_size e)) (Heap.get?_push_of_some _ e)
    have J : Inv (lamCx X (X.A.deeper (envOfC qg sg s.heap.objs.size g cdg)) (envOfC qg sg s.heap.objs.size g cdg :: X.stack) s1 H1 E scope f c') [] σ H1 { s1 with heap := h1, toks := s1.toks + bs.length } := lam_begin I L I1.env0 room.hd un ns keep2
    refine wpAny_mono ((does _ _ s1 H1 (room.deeper _)).run [] _ _ H1 Q J t0) ?_ fun _ _ z => z
    rintro v s2 ⟨v', H2, J2, r2, q2⟩
    exact ⟨v', H2, J2.os, J2.bare, J2.base, J2.hok, r2, q2⟩
  have out := passes_call (X := (cxOf CXg X.prog X.w X.K X.mg X.base Ng qg sg g cdg X.A X.stack s H Eg).tr pn xe) tk hW
  refine codeAny_mono ran fun r s2 hq => ?_
  match r, hq with
  | .error e, hq => exact out pinsZ σZ H1 s1 e s2 I1 hq
  | .ok (.ret u), hq => exact I1.after hq
end
end KR
set_option Elab.async false
set_option linter.all false
set_option maxRecDepth 100000
set_option maxHeartbeats 3000000
namespace KR
open PySem PySem.Spec PyProof.Rows L2
section
variable {P : Program} {w : World} {A : Around} {E : Value → Shared → Prop} {s : Shared}
theorem den_of {id : String} {b : Builtin} {args : Args} (e : entryFor table id = some b) : (model P w).den (.builtin id args) = b args := by
  show (match entryFor table id with | some b => b args | none => unsupported ((withoutEnding? id "#data").getD id)) = _
  rw [e]
/-- the walk over what a set is made of: from turn to turn RI holds of the heap -/
theorem fill {I S : Addr} {fp wr : List Addr} {G : Array GenState → Array GenState → Prop} {N : Nat} {Pv : Nat → Value → Prop} {St : Nat → Shared → Prop} {R : Result → Shared → Prop} (RI : Nat → Heap → Prop)
    (W : WalksS P w A.in1 I fp wr G N Pv St) (far : S ∉ fp) (stay : ∀ i (h h' : Heap), (∀ o, h.get? S = some o → h'.get? S = some o) → RI i h → RI i h')
    (more : ∀ (i : Nat) (v : Value) (A' : Around) (s' : Shared) (Q' : Bool → Shared → Prop) (E' : Value → Shared → Prop), Pv i v → RI i s'.heap → (∀ b h', Heap.SameBut S s'.heap h' → RI (i + 1) h' → Q' b { s' with heap := h', toks := s'.toks + 1 }) → wpAny (model P w) A' (setAdd S v) Q' E' s')
    (st0 : St 0 s) (r0 : RI 0 s.heap) (out : ∀ s', Moved (S :: wr) G s s' → RI N s'.heap → R (.ok (.ret .none)) s') : codeAny (model P w) A (.builtin "set.update.loop" ⟨[.ref S, .ref I], []⟩) R s := by
  have away : S ∉ wr := fun q => far (W.sub S q)
  have wide : ∀ b ∈ wr, b ∈ S :: wr := fun b q => .tail _ q
  refine codeAny_loop (plainId_quiet F.plain_set_update_loop _) (fun left s' => ∃ i, i + left = N ∧ St i s' ∧ RI i s'.heap ∧ Moved (S :: wr) G s s') (fun left s1 ⟨i, he, hs, hr, hm⟩ => ?_) N ⟨0, by omega, st0, r0, Moved.refl W.grefl⟩
  rw [Around.under_plainId (id := "set.update.loop") F.plain_set_update_loop]
  rw [den_of (b := Builtin.«set.update.loop») F.entry_set_update_loop]
  show wpAny _ _ (pyNext (.ref I) >>= _) _ _ s1
  cases left with
  | zero =>
    have e : i = N := by omega
    subst e
    exact wpAny_bind (W.done s1 _ _ hs fun s2 m2 => wpAny_pure (out s2 (hm.trans W.gtrans (m2.mono wide)) (stay i _ _ (fun o e => m2.heap S o away e) hr)))
  | succ left =>
    refine wpAny_bind (W.item i s1 _ _ (by omega) hs fun v s2 pv hs2 m2 => ?_)
    refine wpAny_bind (wpAny_holding (more i v _ s2 _ _ pv (stay i _ _ (fun o e => m2.heap S o away e) hr) fun b h' sb hr' => ?_))
    have others : ∀ c, c ≠ S → ∀ o, s2.heap.get? c = some o → h'.get? c = some o := fun c hc o e => (sb.2 c hc).trans e
    refine wpAny_pure ⟨rfl, left, Nat.lt_succ_self left, i + 1, by omega, W.frame (i + 1) s2 h' _ hs2 (Nat.le_succ _) fun c hc o e => others c (fun z => far (z ▸ hc)) o e, hr', ?_⟩
    exact hm.trans W.gtrans ((m2.mono wide).then_heap (Nat.le_succ _) fun c o hc e => others c (fun z => hc (z ▸ List.mem_cons_self)) o e)
/-- the set, as it is made -/
def bare (w : World) : Obj := { cls := .type "set", dict := none, data := .set #[] 0 (.fresh 0 0 (!w.params.followText "set-order")) }
/-- a type that is called with arguments: what its maker gives, what its beginner does with it -/
theorem typed {T mk ini : String} {args : List Value} {N Q : Value → Shared → Prop} (ft : TypeCalled T mk ini) (ok : checkTypeCall T ⟨args, []⟩ = pure ())
    (first : codeAny (model P w) A.in1 (.call (.builtin mk) ⟨.type T :: args, []⟩) (wants N E) s)
    (after : ∀ obj s1, N obj s1 → s1.TypeIs obj T ∧ codeAny (model P w) A.in1 (.call (.builtin ini) ⟨obj :: args, []⟩) (wants (fun r s2 => r = .none ∧ Q obj s2) E) s1) :
    wpAny (model P w) A (call (.type T) args) Q E s := by
  rcases ft with ⟨g1, g2, ⟨c, tl, g3⟩, g4, g5, g6, g7⟩
  apply wpAny_call
  apply codeAny_of_tree
  change wpAny _ _ (callAny (.type T) ⟨args, []⟩) _ _ _
  refine wpAny_pure (And.intro (Code.quiet_builtin _ (by decide +kernel)) (codeAny_builtin F.entry_type_call ?_))
  rw [Around.under_plain (weight_type_call_type T args []) rfl]
  repeat' (first | assumption | wp_step)
  refine codeAny_mono first fun r s1 q => ?_
  match r, q with
  | .ok (.ret obj), q =>
    obtain ⟨ty, run⟩ := after obj s1 q
    have k1 := g7.lookup
    have k2 := g7.bind obj
    repeat' (first | assumption | wp_step)
    refine codeAny_mono run fun r2 s2 q2 => ?_
    match r2, q2 with
    | .ok (.ret _), ⟨rfl, q3⟩ =>
      repeat' (first | assumption | wp_step)
    | .error e, q2 => exact q2
  | .error e, q => exact q
/-- set.__init__ of a new set and something that can be walked -/
theorem begun {T : String} {S l I : Addr} {fp wr : List Addr} {G : Array GenState → Array GenState → Prop} {N : Nat} {Pv : Nat → Value → Prop} {St : Nat → Shared → Prop} {s1 : Shared} {R : Value → Shared → Prop} (RI : Nat → Heap → Prop) (hS : s.heap.get? S = some (bare w)) (hT : s.TypeIs (.ref l) T)
    (n1 : isSubtype (.type T) (.type "set") = pure false) (n2 : isSubtype (.type T) (.type "frozenset") = pure false) (n3 : (Value.type T == Value.type "dict") = false)
    (iter : ∀ (A' : Around) (Q : Value → Shared → Prop) (E' : Value → Shared → Prop), Q (.ref I) s1 → wpAny (model P w) A' (pyIter (.ref l)) Q E' s)
    (W : ∀ A' : Around, A'.handled = none → WalksS P w A' I fp wr G N Pv St) (far : S ∉ fp) (stay : ∀ i (h h' : Heap), (∀ o, h.get? S = some o → h'.get? S = some o) → RI i h → RI i h')
    (more : ∀ (i : Nat) (v : Value) (A' : Around) (s' : Shared) (Q' : Bool → Shared → Prop) (E' : Value → Shared → Prop), Pv i v → RI i s'.heap → (∀ b h', Heap.SameBut S s'.heap h' → RI (i + 1) h' → Q' b { s' with heap := h', toks := s'.toks + 1 }) → wpAny (model P w) A' (setAdd S v) Q' E' s')
    (st0 : St 0 s1) (r0 : RI 0 s1.heap) (hh : A.handled = none) (out : ∀ s', Moved (S :: wr) G s1 s' → RI N s'.heap → R .none s') :
    codeAny (model P w) A (.call (.builtin "set.__init__") ⟨[.ref S, .ref l], []⟩) (wants R E) s := by
  have tS : s.TypeIs (.ref S) "set" := ⟨_, hS, rfl⟩
  refine codeAny_call_builtin F.called_set.init.plain F.entry_set_init (check_set_init_1 tS ?_)
  unfold Builtin.«set.__init__» noKeywords Builtin.Frozenset.updateFrom
  generalize e : pyIter = it
  unfold bare at hS
  wp_walk
  subst e
  refine iter _ _ _ (wpAny_bind (wpAny_runValue (fill RI (W _ (by simp [hh])) far stay more st0 r0 fun s' m r => ?_)))
  exact wpAny_pure (wpAny_pure (out s' m r))
/-- set(xs): xs a list or a tuple; RI as the set is filled -/
theorem call_set_by {T : String} {l : Addr} {N : Nat} {Pv : Nat → Value → Prop} {it : Obj} {St : Addr → Nat → Heap → Prop} (RI : Nat → Heap → Prop) {Q : Value → Shared → Prop} (hh : A.handled = none) (lo : l < s.heap.objs.size) (fr : it.isFreed = false)
    (hT : ∀ s' : Shared, (∀ b o, s.heap.get? b = some o → s'.heap.get? b = some o) → s'.TypeIs (.ref l) T)
    (n1 : isSubtype (.type T) (.type "set") = pure false) (n2 : isSubtype (.type T) (.type "frozenset") = pure false) (n3 : (Value.type T == Value.type "dict") = false)
    (iter : ∀ (s' : Shared) (A' : Around) (Q : Value → Shared → Prop) (E' : Value → Shared → Prop), (∀ b o, s.heap.get? b = some o → s'.heap.get? b = some o) → Q (.ref s'.heap.objs.size) { s' with heap := s'.heap.push it } → wpAny (model P w) A' (pyIter (.ref l)) Q E' s')
    (W : ∀ (I : Addr) (A' : Around), l ≠ I → A'.handled = none → Walks P w A' I [I, l] [I] N Pv (St I)) (start : ∀ (I : Addr) (h : Heap), (∀ b o, s.heap.get? b = some o → h.get? b = some o) → h.get? I = some it → St I 0 h)
    (stay : ∀ i (h h' : Heap), (∀ o, h.get? s.heap.objs.size = some o → h'.get? s.heap.objs.size = some o) → RI i h → RI i h') (zero : ∀ h : Heap, h.get? s.heap.objs.size = some (bare w) → RI 0 h)
    (more : ∀ (i : Nat) (v : Value) (A' : Around) (s' : Shared) (Q' : Bool → Shared → Prop) (E' : Value → Shared → Prop), Pv i v → RI i s'.heap → (∀ b h', Heap.SameBut s.heap.objs.size s'.heap h' → RI (i + 1) h' → Q' b { s' with heap := h', toks := s'.toks + 1 }) → wpAny (model P w) A' (setAdd s.heap.objs.size v) Q' E' s')
    (out : ∀ (h' : Heap) (tk : Nat), RI N h' → (∀ b o, s.heap.get? b = some o → h'.get? b = some o) → Q (.ref s.heap.objs.size) { s with heap := h', toks := tk }) : wpAny (model P w) A (call (.type "set") [.ref l]) Q E s := by
  have up1 : ∀ b o, s.heap.get? b = some o → (s.heap.push (bare w)).get? b = some o := fun b o e => Heap.get?_push_of_some _ e
  have up2 : ∀ b o, s.heap.get? b = some o → ((s.heap.push (bare w)).push it).get? b = some o := fun b o e => Heap.get?_push_of_some _ (up1 b o e)
  have z1 : (s.heap.push (bare w)).objs.size = s.heap.objs.size + 1 := Heap.size_push ..
  have at1 : (s.heap.push (bare w)).get? s.heap.objs.size = some (bare w) := Heap.get?_push_size _ rfl
  have ne1 : l ≠ (s.heap.push (bare w)).objs.size := fun q => by rw [z1] at q; have q' : @Eq Nat l (s.heap.objs.size + 1) := q; have lo' : @LT.lt Nat _ l s.heap.objs.size := lo; omega
  refine typed (N := fun v s1 => v = .ref s.heap.objs.size ∧ s1 = { s with heap := s.heap.push (bare w) }) F.called_set (F.typeCall_set_1 _) (L2.code_set_led1 (.ref l) ⟨rfl, rfl⟩) fun v s1 q => ?_
  obtain ⟨rfl, rfl⟩ := q
  refine ⟨⟨_, at1, rfl⟩, begun RI at1 (hT _ up1) n1 n2 n3 (fun A' Q E' h => iter _ A' Q E' up1 h) (fun A' h => (W _ A' ne1 h).toS) ?_ stay more (start _ _ up2 (Heap.get?_push_size _ fr)) (zero _ (Heap.get?_push_of_some _ at1)) (by simp [hh]) fun s' m r => ?_⟩
  · rw [z1, List.mem_cons, List.mem_singleton]
    rintro (q | q)
    · have q' : @Eq Nat s.heap.objs.size (s.heap.objs.size + 1) := q; omega
    · have q' : @Eq Nat s.heap.objs.size l := q; have lo' : @LT.lt Nat _ l s.heap.objs.size := lo; omega
  · refine ⟨rfl, ?_⟩
    have e : s' = { s with heap := s'.heap, toks := s'.toks } := by
      obtain ⟨a, b, c, d, f⟩ := s'
      have g1 : b = s.gens := m.gens
      have g2 : c = s.drawn := m.drawn
      have g3 : f = s.os := m.os
      rw [g1, g2, g3]
    rw [e]
    refine out _ _ r fun b o h => m.heap b o ?_ (up2 b o h)
    have lb := Heap.lt_size h
    rw [z1, List.mem_cons, List.mem_singleton]
    rintro (q | q)
    · have q' : @Eq Nat b s.heap.objs.size := q; have lb' : @LT.lt Nat _ b s.heap.objs.size := lb; omega
    · have q' : @Eq Nat b (s.heap.objs.size + 1) := q; have lb' : @LT.lt Nat _ b s.heap.objs.size := lb; omega
theorem call_set_list {l : Addr} {items : Array Value} (RI : Nat → Heap → Prop) {Q : Value → Shared → Prop} (hh : A.handled = none) (hl : s.heap.IsList l items)
    (stay : ∀ i (h h' : Heap), (∀ o, h.get? s.heap.objs.size = some o → h'.get? s.heap.objs.size = some o) → RI i h → RI i h') (zero : ∀ h : Heap, h.get? s.heap.objs.size = some (bare w) → RI 0 h)
    (more : ∀ (i : Nat) (v : Value) (A' : Around) (s' : Shared) (Q' : Bool → Shared → Prop) (E' : Value → Shared → Prop), items[i]? = some v → RI i s'.heap → (∀ b h', Heap.SameBut s.heap.objs.size s'.heap h' → RI (i + 1) h' → Q' b { s' with heap := h', toks := s'.toks + 1 }) → wpAny (model P w) A' (setAdd s.heap.objs.size v) Q' E' s')
    (out : ∀ (h' : Heap) (tk : Nat), RI items.size h' → (∀ b o, s.heap.get? b = some o → h'.get? b = some o) → Q (.ref s.heap.objs.size) { s with heap := h', toks := tk }) : wpAny (model P w) A (call (.type "set") [.ref l]) Q E s := by
  have lo : l < s.heap.objs.size := by obtain ⟨o, e, _⟩ := hl; exact Heap.lt_size e
  refine call_set_by (T := "list") (it := { cls := .type "list_iterator", data := .fields #[.ref l, .int 0 0] }) RI hh lo rfl (fun s' k => ?_) F.sub_list_set F.sub_list_frozenset (by decide) (fun s' A' Q E' k h => wpAny_pyIter_list (hl.at fun o => k l o) h) (fun I A' ne h => Walks.list h I l ne items) (fun I h k e => ⟨⟨_, e, rfl, rfl⟩, hl.at fun o => k l o⟩) stay zero more out
  exact (hl.at fun o => k l o).typeIs
theorem call_set_tuple {l : Addr} {items : Array Value} (RI : Nat → Heap → Prop) {Q : Value → Shared → Prop} (hh : A.handled = none) (hl : s.heap.IsTuple l items)
    (stay : ∀ i (h h' : Heap), (∀ o, h.get? s.heap.objs.size = some o → h'.get? s.heap.objs.size = some o) → RI i h → RI i h') (zero : ∀ h : Heap, h.get? s.heap.objs.size = some (bare w) → RI 0 h)
    (more : ∀ (i : Nat) (v : Value) (A' : Around) (s' : Shared) (Q' : Bool → Shared → Prop) (E' : Value → Shared → Prop), items[i]? = some v → RI i s'.heap → (∀ b h', Heap.SameBut s.heap.objs.size s'.heap h' → RI (i + 1) h' → Q' b { s' with heap := h', toks := s'.toks + 1 }) → wpAny (model P w) A' (setAdd s.heap.objs.size v) Q' E' s')
    (out : ∀ (h' : Heap) (tk : Nat), RI items.size h' → (∀ b o, s.heap.get? b = some o → h'.get? b = some o) → Q (.ref s.heap.objs.size) { s with heap := h', toks := tk }) : wpAny (model P w) A (call (.type "set") [.ref l]) Q E s := by
  have lo : l < s.heap.objs.size := by obtain ⟨o, e, _⟩ := hl; exact Heap.lt_size e
  refine call_set_by (T := "tuple") (it := { cls := .type "tuple_iterator", data := .fields #[.ref l, .int 0 0] }) RI hh lo rfl (fun s' k => ?_) F.sub_tuple_set F.sub_tuple_frozenset (by decide) (fun s' A' Q E' k h => wpAny_pyIter_tuple (hl.at fun o => k l o) h) (fun I A' ne h => Walks.tuple h I l ne items) (fun I h k e => ⟨⟨_, e, rfl, rfl⟩, hl.at fun o => k l o⟩) stay zero more out
  obtain ⟨o, e, c, _⟩ := hl
  exact ⟨o, k _ _ e, c⟩
end
end KR
set_option Elab.async false
set_option linter.all false
set_option maxRecDepth 100000
set_option maxHeartbeats 2000000
namespace KR
open PySem L2
/-- what an exception tells behind its dict -/
inductive Xf where
  | no | word (s : Str) | place (i : Int)
def XfAt (F : Hp) : Option Addr → Xf → Prop
  | none, .no => True
  | some dd, .word w => F dd = some (.xd [("word", .str w)])
  | some dd, .place p => F dd = some (.xd [("place", .int p)])
  | _, _ => False
inductive D where
  | non | bl (b : Bool) | int (i : Int) | str (s : Str) | lst (xs : List D) | tup (xs : List D) | obj (n : Nat) | scr (ns : List Int) | exn (a : Addr) (d : Option Addr) (x : Xf)
def Sub (H H' : Hp) : Prop := ∀ a o, H a = some o → H' a = some o
mutual
inductive Is (K : PySem.W.Frag) (F : Hp) (B : List Addr) : V → D → Prop
  | non : Is K F B .non .non
  | bl (b : Bool) : Is K F B (.bl b) (.bl b)
  | int (i : Int) : Is K F B (.int i) (.int i)
  | str (s : Str) : Is K F B (.str s) (.str s)
  | lst {a : Addr} {vs : List V} {xs : List D} : F a = some (.lst vs) → IsL K F B vs xs → Is K F B (.ref a) (.lst xs)
  | tup {a : Addr} {vs : List V} {xs : List D} : F a = some (.tup vs) → IsL K F B vs xs → Is K F B (.ref a) (.tup xs)
  | obj {a : Addr} {n : Nat} : B[n]? = some a → Is K F B (.ref a) (.obj n)
  | scr {a : Addr} {ns : List Int} : SqL K F a (ns.map V.int) → Is K F B (.ref a) (.scr ns)
  | exn {a : Addr} {d : Option Addr} {x : Xf} : XfAt F d x → Is K F B (.ref a) (.exn a d x)
inductive IsL (K : PySem.W.Frag) (F : Hp) (B : List Addr) : List V → List D → Prop
  | nil : IsL K F B [] []
  | cons {v : V} {vs : List V} {d : D} {ds : List D} : Is K F B v d → IsL K F B vs ds → IsL K F B (v :: vs) (d :: ds)
end
theorem sub_rd {H H' : Hp} {a : Addr} {u : HO} (e : Sub H H') (h : Rd H a u) : Rd H' a u := by
  rcases h with h | ⟨o, h⟩
  · exact Or.inl (e a _ h)
  · exact Or.inr ⟨o, e a _ h⟩
theorem sub_sql {K : PySem.W.Frag} {H H' : Hp} {a : Addr} {xs : List V} (e : Sub H H') (h : SqL K H a xs) : SqL K H' a xs := by
  rcases h with h | h
  · exact Or.inl (sub_rd e h)
  · exact Or.inr h
theorem XfAt.mono {F F' : Hp} (hf : Sub F F') : ∀ {d : Option Addr} {x : Xf}, XfAt F d x → XfAt F' d x
  | none, .no, _ => trivial
  | some dd, .word w, h => hf _ _ h
  | some dd, .place p, h => hf _ _ h
mutual
theorem Is.mono {K : PySem.W.Frag} {F F' : Hp} {B B' : List Addr} (hf : Sub F F') (hb : ∀ (n : Nat) (a : Addr), B[n]? = some a → B'[n]? = some a) : ∀ {v : V} {d : D}, Is K F B v d → Is K F' B' v d
  | _, _, .non => .non
  | _, _, .bl b => .bl b
  | _, _, .int i => .int i
  | _, _, .str s => .str s
  | _, _, .lst h1 h2 => .lst (hf _ _ h1) (IsL.mono hf hb h2)
  | _, _, .tup h1 h2 => .tup (hf _ _ h1) (IsL.mono hf hb h2)
  | _, _, .obj h => .obj (hb _ _ h)
  | _, _, .scr h => .scr (sub_sql hf h)
  | _, _, .exn h => .exn (h.mono hf)
theorem IsL.mono {K : PySem.W.Frag} {F F' : Hp} {B B' : List Addr} (hf : Sub F F') (hb : ∀ (n : Nat) (a : Addr), B[n]? = some a → B'[n]? = some a) : ∀ {vs : List V} {ds : List D}, IsL K F B vs ds → IsL K F' B' vs ds
  | _, _, .nil => .nil
  | _, _, .cons h1 h2 => .cons (Is.mono hf hb h1) (IsL.mono hf hb h2)
end
end KR
set_option Elab.async false
set_option linter.all false
set_option maxRecDepth 100000
set_option maxHeartbeats 2000000
namespace KR
open PySem L2
/-! ### heaps -/
theorem Sub.refl (H : Hp) : Sub H H := fun _ _ h => h
theorem Sub.trans {H H1 H2 : Hp} (a : Sub H H1) (b : Sub H1 H2) : Sub H H2 := fun x o h => b x o (a x o h)
theorem sub_none {H H' : Hp} {p : Addr} (e : Sub H H') (h : H' p = none) : H p = none := by
  cases h1 : H p with
  | none => rfl
  | some o => rw [e p o h1] at h; cases h
theorem sub_upd {H : Hp} {p : Addr} {o : HO} (h : H p = none) : Sub H (upd H p o) := fun a u e => by
  rw [upd_ne (ne_of_none e h)]; exact e
/-- F: what is known for good; H: the heap. Only new things come -/
structure Grow (F H F' H' : Hp) : Prop where
  ff : Sub F F'
  fh : Sub F' H'
  hh : Sub H H'
  nw : ∀ a, F a = none → F' a ≠ none → H a = none
theorem Grow.refl {F H : Hp} (e : Sub F H) : Grow F H F H := ⟨Sub.refl _, e, Sub.refl _, fun _ h n => (n h).elim⟩
theorem Grow.trans {F H F1 H1 F2 H2 : Hp} (a : Grow F H F1 H1) (b : Grow F1 H1 F2 H2) : Grow F H F2 H2 :=
  ⟨a.ff.trans b.ff, b.fh, a.hh.trans b.hh, fun x h n => by
    cases e : F1 x with
    | none => exact sub_none a.hh (b.nw x e n)
    | some o => exact a.nw x h (by rw [e]; exact fun z => nomatch z)⟩
theorem Grow.new {F H : Hp} {p : Addr} {o : HO} (e : Sub F H) (h : H p = none) : Grow F H (upd F p o) (upd H p o) := by
  refine ⟨sub_upd (sub_none e h), fun a u q => ?_, sub_upd h, fun a q n => ?_⟩
  · by_cases ha : a = p
    · subst ha; rw [upd_same] at q ⊢; exact q
    · rw [upd_ne ha] at q ⊢; exact e a u q
  · by_cases ha : a = p
    · subst ha; exact h
    · rw [upd_ne ha] at n; exact (n q).elim
theorem Grow.hid {F H : Hp} {p : Addr} {o : HO} (e : Sub F H) (h : H p = none) : Grow F H F (upd H p o) :=
  ⟨Sub.refl _, e.trans (sub_upd h), sub_upd h, fun _ q n => (n q).elim⟩
/-- what stands behind a handle -/
inductive MO where
  | ml (xs : List D) | ins (fs : List (Str × D)) | gone | tb (x : Str) | dt (kvs : List ((Int × Int) × Int)) | dn (kvs : List (Option Int × Option Int))
abbrev Om := List MO
/-- a dict by numbers and None, its values such -/
def nkO : Option Int → Option L2.Key := Option.map Sum.inl
def oV : Option Int → V
  | none => .non
  | some i => .int i
def dnOk (a : Addr) (kvs : List (Option Int × Option Int)) (h : Heap) : Prop :=
  ∀ (P : Program) (w : World), ∃ vs : List (Option L2.Key × Value), PySem.Paired (fun (p : Option Int × Option Int) (q : Option L2.Key × Value) => q.1 = nkO p.1 ∧ RelV (oV p.2) q.2) kvs vs ∧ h.DictOf (noneKind P w) a vs
/-- a dict by pairs of numbers, as the kit tells it -/
def dtV (kvs : List ((Int × Int) × Int)) : List (List L2.Key × V) := kvs.map fun p => ([.inl p.1.1, .inl p.1.2], .int p.2)
/-- where the code table of the module's def x lies -/
abbrev tbAt (K : PySem.W.Frag) (x : Str) : Addr := (He.cT K (x, none)).2
abbrev tbQ (x : Str) : Str := x ++ (".<locals>." : Str) ++ ("<lambda>" : Str)
inductive EV where
  | no | d (x : D) | own (xs : List D)
abbrev Rho := List EV
def At (K : PySem.W.Frag) (C : Addr) (F : Hp) (B : List Addr) (H : Hp) (a : Addr) : MO → Prop
  | .ml xs => F a = none ∧ ∃ vs, H a = some (.lst vs) ∧ IsL K F B vs xs
  | .ins fs => F a = none ∧ ∃ dx fvs, H a = some (.ins C dx fvs) ∧ fvs.map (·.1) = fs.map (·.1) ∧ IsL K F B (fvs.map (·.2)) (fs.map (·.2))
  | .gone => True
  | .dt kvs => F a = none ∧ H a = some (.dT (dtV kvs))
  | .dn kvs => F a = none ∧ H a = some (.ext (dnOk a kvs))
  | .tb x => F a = none ∧ a = tbAt K x ∧ ∃ ps : Array Value, H a = some (.tbl ps) ∧ PySem.TriplesOk ps.toList ∧ ∀ (p : Pos) (cv : Value), PySem.codeAmong p ps.toList = some cv → ∃ c, cv = .ref c ∧ F c = some (LamX.CodeO c (tbQ x))
structure Store (K : PySem.W.Frag) (C : Addr) (F : Hp) (B : List Addr) (H : Hp) (o : Om) : Prop where
  len : B.length = o.length
  nd : B.Nodup
  there : ∀ a ∈ B, H a ≠ none
  at_ : ∀ (n : Nat) (a : Addr) (mo : MO), B[n]? = some a → o[n]? = some mo → At K C F B H a mo
structure EnvOk (K : PySem.W.Frag) (F : Hp) (B : List Addr) (H : Hp) (σ : L2.St) (ρ : Rho) : Prop where
  len : σ.length = ρ.length
  dat : ∀ (i : Nat) (x : D), ρ[i]? = some (.d x) → ∃ v, σ[i]? = some (some v) ∧ Is K F B v x
  own : ∀ (i : Nat) (xs : List D), ρ[i]? = some (.own xs) → ∃ a vs, σ[i]? = some (some (.ref a)) ∧ H a = some (.lst vs) ∧ IsL K F B vs xs ∧ F a = none ∧ a ∉ B
  sep : ∀ (i j : Nat) (xs ys : List D) (a : Addr), ρ[i]? = some (.own xs) → ρ[j]? = some (.own ys) → σ[i]? = some (some (.ref a)) → σ[j]? = some (some (.ref a)) → i = j
/-- a step of the program -/
structure Step (F H : Hp) (B : List Addr) (F' H' : Hp) (B' : List Addr) : Prop where
  ff : Sub F F'
  fh : Sub F' H'
  bb : ∃ t, B' = B ++ t
  kp : ∀ a o, H a = some o → a ∉ B → H' a = some o
  th : ∀ a, H' a = none → H a = none
  nw : ∀ a, F a = none → F' a ≠ none → H a = none ∨ a ∈ B
  bn : ∀ a, a ∈ B' → a ∈ B ∨ H a = none
section
variable {K : PySem.W.Frag} {C : Addr} {F F' F1 F2 H H' H1 H2 : Hp} {B B' B1 B2 : List Addr} {o o' : Om} {σ σ' : L2.St} {ρ ρ' : Rho}
theorem Step.bm (s : Step F H B F' H' B') (n : Nat) (a : Addr) (h : B[n]? = some a) : B'[n]? = some a := by
  obtain ⟨t, rfl⟩ := s.bb
  rw [List.getElem?_append_left (List.getElem?_eq_some_iff.mp h).1]; exact h
theorem Step.is (s : Step F H B F' H' B') {v : V} {d : D} (h : Is K F B v d) : Is K F' B' v d := h.mono s.ff s.bm
theorem Step.isL (s : Step F H B F' H' B') {v : List V} {d : List D} (h : IsL K F B v d) : IsL K F' B' v d := h.mono s.ff s.bm
theorem Step.refl (e : Sub F H) : Step F H B F H B := ⟨Sub.refl _, e, ⟨[], by simp⟩, fun _ _ h _ => h, fun _ h => h, fun _ h n => (n h).elim, fun _ h => .inl h⟩
theorem Step.of (g : Grow F H F' H') : Step F H B F' H' B := ⟨g.ff, g.fh, ⟨[], by simp⟩, fun a o h _ => g.hh a o h, fun _ h => sub_none g.hh h, fun a h n => .inl (g.nw a h n), fun _ h => .inl h⟩
theorem Step.trans (a : Step F H B F1 H1 B1) (b : Step F1 H1 B1 F2 H2 B2) : Step F H B F2 H2 B2 := by
  refine ⟨a.ff.trans b.ff, b.fh, ?_, fun x u h n => ?_, fun x h => a.th x (b.th x h), fun x h n => ?_, fun x h => ?_⟩
  · obtain ⟨t, rfl⟩ := a.bb
    obtain ⟨u, rfl⟩ := b.bb
    exact ⟨t ++ u, by rw [List.append_assoc]⟩
  · refine b.kp x u (a.kp x u h n) fun q => ?_
    rcases a.bn x q with z | z
    · exact n z
    · rw [h] at z; cases z
  · cases e : F1 x with
    | none =>
      rcases b.nw x e n with z | z
      · exact .inl (a.th x z)
      · exact (a.bn x z).symm
    | some u => exact a.nw x h (by rw [e]; exact fun z => nomatch z)
  · rcases b.bn x h with z | z
    · exact a.bn x z
    · exact .inr (a.th x z)
theorem At.grow (g : Grow F H F' H') {a : Addr} (ht : H a ≠ none) : ∀ {mo : MO}, At K C F B H a mo → At K C F' B H' a mo
  | .ml xs, ⟨h1, vs, h2, h3⟩ => ⟨by
      cases e : F' a with
      | none => rfl
      | some u => exact (ht (g.nw a h1 (by rw [e]; exact fun z => nomatch z))).elim, vs, g.hh _ _ h2, h3.mono g.ff fun _ _ h => h⟩
  | .ins fs, ⟨h1, dx, fvs, h2, h3, h4⟩ => ⟨by
      cases e : F' a with
      | none => rfl
      | some u => exact (ht (g.nw a h1 (by rw [e]; exact fun z => nomatch z))).elim, dx, fvs, g.hh _ _ h2, h3, h4.mono g.ff fun _ _ h => h⟩
  | .gone, _ => trivial
  | .dn kvs, ⟨h1, h2⟩ => ⟨by
      cases e : F' a with
      | none => rfl
      | some u => exact (ht (g.nw a h1 (by rw [e]; exact fun z => nomatch z))).elim, g.hh _ _ h2⟩
  | .dt kvs, ⟨h1, h2⟩ => ⟨by
      cases e : F' a with
      | none => rfl
      | some u => exact (ht (g.nw a h1 (by rw [e]; exact fun z => nomatch z))).elim, g.hh _ _ h2⟩
  | .tb x, ⟨h1, h2, ps, h3, h4, h5⟩ => ⟨by
      cases e : F' a with
      | none => rfl
      | some u => exact (ht (g.nw a h1 (by rw [e]; exact fun z => nomatch z))).elim, h2, ps, g.hh _ _ h3, h4, fun p cv q => by
      obtain ⟨c, e1, e2⟩ := h5 p cv q
      exact ⟨c, e1, g.ff _ _ e2⟩⟩
theorem Store.grow (s : Store K C F B H o) (g : Grow F H F' H') : Store K C F' B H' o :=
  ⟨s.len, s.nd, fun a h n => s.there a h (sub_none g.hh n), fun n a mo h1 h2 => (s.at_ n a mo h1 h2).grow g (s.there a (List.mem_of_getElem? h1))⟩
theorem EnvOk.step (e : EnvOk K F B H σ ρ) (s : Step F H B F' H' B') : EnvOk K F' B' H' σ ρ := by
  refine ⟨e.len, fun i x h => ?_, fun i xs h => ?_, e.sep⟩
  · obtain ⟨v, h1, h2⟩ := e.dat i x h
    exact ⟨v, h1, s.is h2⟩
  · obtain ⟨a, vs, h1, h2, h3, h4, h5⟩ := e.own i xs h
    refine ⟨a, vs, h1, s.kp a _ h2 h5, s.isL h3, ?_, fun q => ?_⟩
    · cases q : F' a with
      | none => rfl
      | some u =>
        rcases s.nw a h4 (by rw [q]; exact fun z => nomatch z) with z | z
        · rw [h2] at z; cases z
        · exact (h5 z).elim
    · rcases s.bn a q with z | z
      · exact h5 z
      · rw [h2] at z; cases z
end
/-- an exception of the package -/
inductive Xc where
  | badBook | badKey (w : Str) | noOne | badPlace | badTimes (p : Int) | noMoment
def Xc.nm : Xc → Str
  | .badBook => "BadBook" | .badKey _ => "BadKey" | .noOne => "NoOne" | .badPlace => "BadPlace" | .badTimes _ => "BadTimes" | .noMoment => "NoMoment"
def Xc.xf : Xc → Xf
  | .badKey w => .word w | .badTimes p => .place p | _ => .no
def XAt (K : PySem.W.Frag) (F : Hp) (x : Xc) (cls : Value) (d : Option Addr) : Prop := cls = .ref (He.ga K x.nm) ∧ XfAt F d x.xf
inductive Res (α : Type) where
  | ok (a : α) (o : Om) | exc (x : Xc) (o : Om) | bad
def Res.bind {α β : Type} (r : Res α) (k : α → Om → Res β) : Res β := match r with
  | .ok a o => k a o
  | .exc x o => .exc x o
  | .bad => .bad
def Res.of {α : Type} (o : Om) : Option α → Res α
  | some a => .ok a o
  | none => .bad
@[simp] theorem Res.bind_ok {α β : Type} (a : α) (o : Om) (k : α → Om → Res β) : (Res.ok a o).bind k = k a o := rfl
@[simp] theorem Res.bind_exc {α β : Type} (x : Xc) (o : Om) (k : α → Om → Res β) : (Res.exc x o : Res α).bind k = .exc x o := rfl
@[simp] theorem Res.bind_bad {α β : Type} (k : α → Om → Res β) : (Res.bad : Res α).bind k = .bad := rfl
@[simp] theorem Res.of_some {α : Type} (a : α) (o : Om) : Res.of o (some a) = .ok a o := rfl
@[simp] theorem Res.of_none {α : Type} (o : Om) : (Res.of o none : Res α) = .bad := rfl
/-- an outcome, wanted -/
def Con {α γ : Type} (K : PySem.W.Frag) (C : Addr) (rel : Hp → List Addr → γ → α → Prop) (E : XK) (F H : Hp) (B : List Addr) (Q : γ → Hp → Prop) : Res α → Prop
  | .ok x o => ∀ F' H' B' v, Step F H B F' H' B' → Store K C F' B' H' o → rel F' B' v x → Q v H'
  | .exc x o => ∀ F' H' B' cls d, Step F H B F' H' B' → Store K C F' B' H' o → XAt K F' x cls d → E cls d H'
  | .bad => False
section
variable {K : PySem.W.Frag} {C : Addr} {F F' H H' : Hp} {B B' : List Addr} {o o' : Om} {σ σ' : L2.St} {ρ ρ' : Rho} {E : XK} {α β γ δ : Type}
  {rel : Hp → List Addr → γ → α → Prop} {rel2 : Hp → List Addr → δ → β → Prop}
theorem Con.step {Q : γ → Hp → Prop} {r : Res α} (h : Con K C rel E F H B Q r) (s : Step F H B F' H' B') : Con K C rel E F' H' B' Q r := by
  cases r with
  | ok x o => exact fun F1 H1 B1 v s1 => h F1 H1 B1 v (s.trans s1)
  | exc x o => exact fun F1 H1 B1 c d s1 => h F1 H1 B1 c d (s.trans s1)
  | bad => exact h
theorem Con.then {Q : δ → Hp → Prop} {Q1 : γ → Hp → Prop} {r : Res α} {k : α → Om → Res β} (h : Con K C rel2 E F H B Q (r.bind k))
    (hk : ∀ x o1 F1 H1 B1 v, Step F H B F1 H1 B1 → Store K C F1 B1 H1 o1 → rel F1 B1 v x → Con K C rel2 E F1 H1 B1 Q (k x o1) → Q1 v H1) : Con K C rel E F H B Q1 r := by
  cases r with
  | ok x o => exact fun F1 H1 B1 v s1 st r1 => hk x o F1 H1 B1 v s1 st r1 (Con.step h s1)
  | exc x o => exact h
  | bad => exact h
theorem Con.pure {Q : γ → Hp → Prop} {x : α} {v : γ} (h : Con K C rel E F H B Q (.ok x o)) (g : Grow F H F' H') (s : Store K C F B H o) (r : rel F' B v x) : Q v H' :=
  h F' H' B v (Step.of g) (s.grow g) r
end
abbrev DE := Rho → Om → Res D
abbrev DB := Rho → Om → Res Bool
abbrev DA := Rho → Om → Res (List D)
def relB : Hp → List Addr → Bool → Bool → Prop := fun _ _ b c => b = c
/-- the state, told -/
def tOf {α γ : Type} (K : PySem.W.Frag) (C : Addr) (rel : Hp → List Addr → γ → α → Prop) (E : XK) (f : Rho → Om → Res α) : L2.St → Hp → (γ → Hp → Prop) → Prop := fun σ H Q =>
  ∃ F B ρ o, Sub F H ∧ Store K C F B H o ∧ EnvOk K F B H σ ρ ∧ Con K C rel E F H B Q (f ρ o)
abbrev tE (K : PySem.W.Frag) (C : Addr) (E : XK) (f : DE) : TE := tOf K C (Is K) E f
abbrev tT (K : PySem.W.Frag) (C : Addr) (E : XK) (f : DB) : TT := tOf K C relB E f
abbrev tA (K : PySem.W.Frag) (C : Addr) (E : XK) (f : DA) : TA := tOf K C (IsL K) E f
abbrev EX (X : Cx) (C : Addr) (E : XK) (e : Expr) (f : DE) : Prop := PE X e (tE X.K C E f)
abbrev ET (X : Cx) (C : Addr) (E : XK) (e : Expr) (f : DB) : Prop := PT X e (tT X.K C E f)
abbrev EA (X : Cx) (C : Addr) (E : XK) (es : List Expr) (f : DA) : Prop := PA X es (tA X.K C E f)
theorem PE.imp {X : Cx} {e : Expr} {t t' : TE} (h : PE X e t) (i : ∀ σ H Q, t' σ H Q → t σ H Q) : PE X e t' := ⟨fun pins s σ H Q I q => h.run pins s σ H Q I (i σ H Q q)⟩
theorem PT.imp {X : Cx} {e : Expr} {t t' : TT} (h : PT X e t) (i : ∀ σ H Q, t' σ H Q → t σ H Q) : PT X e t' := ⟨fun pins s σ H Q I q => h.run pins s σ H Q I (i σ H Q q)⟩
theorem PA.imp {X : Cx} {e : List Expr} {t t' : TA} (h : PA X e t) (i : ∀ σ H Q, t' σ H Q → t σ H Q) : PA X e t' := ⟨fun pos pins s σ H Q I q => h.run pos pins s σ H Q I (i σ H Q q)⟩
theorem PS.imp {X : Cx} {e : Stmt} {t t' : TS} (h : PS X e t) (i : ∀ D σ H, t' D σ H → t D σ H) : PS X e t' := ⟨fun pins s σ H Q I q => h.run pins s σ H Q I (i Q σ H q)⟩
theorem PSs.imp {X : Cx} {e : List Stmt} {t t' : TS} (h : PSs X e t) (i : ∀ D σ H, t' D σ H → t D σ H) : PSs X e t' := ⟨fun pins s σ H Q I q => h.run pins s σ H Q I (i Q σ H q)⟩
/-! ### views -/
/-- the items of a list, by value or by handle -/
def lv (o : Om) : D → Option (List D)
  | .lst xs => some xs
  | .obj n => match o[n]? with
    | some (.ml xs) => some xs
    | _ => none
  | _ => none
/-- the items of a list, a tuple, the script -/
def qv (o : Om) : D → Option (List D)
  | .lst xs => some xs
  | .tup xs => some xs
  | .scr ns => some (ns.map .int)
  | .obj n => match o[n]? with
    | some (.ml xs) => some xs
    | _ => none
  | _ => none
section
variable {K : PySem.W.Frag} {C : Addr} {F F' H H' : Hp} {B B' : List Addr} {o o' : Om}
theorem Store.obj (s : Store K C F B H o) {n : Nat} {a : Addr} {mo : MO} (h : B[n]? = some a) (e : o[n]? = some mo) : At K C F B H a mo := s.at_ n a mo h e
theorem Is.lv (s : Store K C F B H o) (e : Sub F H) {v : V} {d : D} {xs : List D} (h : Is K F B v d) (q : lv o d = some xs) : ∃ a vs, v = .ref a ∧ H a = some (.lst vs) ∧ IsL K F B vs xs := by
  cases h with
  | lst h1 h2 => cases q; exact ⟨_, _, rfl, e _ _ h1, h2⟩
  | @obj a n h1 =>
    cases hy : o[n]? with
    | none => simp [KR.lv, hy] at q
    | some mo =>
      cases mo with
      | ml ys =>
        simp [KR.lv, hy] at q
        subst q
        obtain ⟨_, vs, h2, h3⟩ := s.obj h1 hy
        exact ⟨_, vs, rfl, h2, h3⟩
      | _ => simp [KR.lv, hy] at q
  | _ => cases q
theorem isL_ints : ∀ ns : List Int, IsL K F B (ns.map V.int) (ns.map D.int)
  | [] => .nil
  | n :: ns => .cons (.int n) (isL_ints ns)
theorem Is.qv (s : Store K C F B H o) (e : Sub F H) {v : V} {d : D} {xs : List D} (h : Is K F B v d) (q : qv o d = some xs) : ∃ a vs, v = .ref a ∧ (SqL K H a vs ∨ SqT K H a vs) ∧ IsL K F B vs xs := by
  cases h with
  | lst h1 h2 => cases q; exact ⟨_, _, rfl, .inl (SqL.of (e _ _ h1)), h2⟩
  | tup h1 h2 => cases q; exact ⟨_, _, rfl, .inr (SqT.of (e _ _ h1)), h2⟩
  | scr h1 => cases q; exact ⟨_, _, rfl, .inl (sub_sql e h1), isL_ints _⟩
  | @obj a n h1 =>
    cases hy : o[n]? with
    | none => simp [KR.qv, hy] at q
    | some mo =>
      cases mo with
      | ml ys =>
        simp [KR.qv, hy] at q
        subst q
        obtain ⟨_, vs, h2, h3⟩ := s.obj h1 hy
        exact ⟨_, vs, rfl, .inl (SqL.of h2), h3⟩
      | _ => simp [KR.qv, hy] at q
  | _ => cases q
theorem IsL.length : ∀ {vs : List V} {ds : List D}, IsL K F B vs ds → vs.length = ds.length
  | _, _, .nil => rfl
  | _, _, .cons _ h => by rw [List.length_cons, List.length_cons, IsL.length h]
theorem IsL.get : ∀ {vs : List V} {ds : List D} {i : Nat} {d : D}, IsL K F B vs ds → ds[i]? = some d → ∃ v, vs[i]? = some v ∧ Is K F B v d
  | _, _, i, d, .nil, h => by simp at h
  | _, _, 0, d, .cons h1 h2, h => by simp at h; subst h; exact ⟨_, rfl, h1⟩
  | _, _, i + 1, d, .cons h1 h2, h => by
    obtain ⟨v, q1, q2⟩ := IsL.get (i := i) (d := d) h2 (by simpa using h)
    exact ⟨v, by simpa using q1, q2⟩
theorem IsL.get' : ∀ {vs : List V} {ds : List D} {i : Nat} {v : V}, IsL K F B vs ds → vs[i]? = some v → ∃ d, ds[i]? = some d ∧ Is K F B v d
  | _, _, i, d, .nil, h => by simp at h
  | _, _, 0, d, .cons h1 h2, h => by simp at h; subst h; exact ⟨_, rfl, h1⟩
  | _, _, i + 1, d, .cons h1 h2, h => by
    obtain ⟨v, q1, q2⟩ := IsL.get' (i := i) h2 (by simpa using h)
    exact ⟨v, by simpa using q1, q2⟩
theorem IsL.append : ∀ {vs us : List V} {ds es : List D}, IsL K F B vs ds → IsL K F B us es → IsL K F B (vs ++ us) (ds ++ es)
  | _, _, _, _, .nil, q => q
  | _, _, _, _, .cons h1 h2, q => .cons h1 (IsL.append h2 q)
theorem IsL.take : ∀ {vs : List V} {ds : List D} (n : Nat), IsL K F B vs ds → IsL K F B (vs.take n) (ds.take n)
  | _, _, 0, _ => .nil
  | _, _, _ + 1, .nil => .nil
  | _, _, n + 1, .cons h1 h2 => .cons h1 (IsL.take n h2)
theorem IsL.drop : ∀ {vs : List V} {ds : List D} (n : Nat), IsL K F B vs ds → IsL K F B (vs.drop n) (ds.drop n)
  | _, _, 0, h => h
  | _, _, _ + 1, .nil => .nil
  | _, _, n + 1, .cons _ h2 => IsL.drop n h2
theorem IsL.set {v : V} {d : D} (h : Is K F B v d) : ∀ {vs : List V} {ds : List D} (n : Nat), IsL K F B vs ds → IsL K F B (vs.set n v) (ds.set n d)
  | _, _, _, .nil => .nil
  | _, _, 0, .cons _ h2 => .cons h h2
  | _, _, n + 1, .cons h1 h2 => .cons h1 (IsL.set h n h2)
theorem IsL.rev {vs : List V} {ds : List D} (h : IsL K F B vs ds) : IsL K F B vs.reverse ds.reverse := by
  induction h using IsL.rec (motive_1 := fun _ _ _ => True) with
  | nil => exact .nil
  | cons h1 _ _ ih => rw [List.reverse_cons, List.reverse_cons]; exact ih.append (.cons h1 .nil)
  | _ => trivial
theorem IsL.atI {vs : List V} {ds : List D} {i : Int} {d : D} (h : IsL K F B vs ds) (e : L2.atI ds i = some d) : ∃ v, L2.atI vs i = some v ∧ Is K F B v d := by
  unfold L2.atI at e ⊢
  rw [h.length]
  cases q : ixN ds.length i with
  | none => rw [q] at e; cases e
  | some j => rw [q] at e; exact h.get e
theorem IsL.ints : ∀ {vs : List V} {ns : List Int}, IsL K F B vs (ns.map D.int) → vs = ns.map V.int
  | _, [], .nil => rfl
  | _, n :: ns, .cons h1 h2 => by cases h1; rw [List.map_cons, IsL.ints h2]
end
end KR
set_option Elab.async false
set_option linter.all false
set_option maxRecDepth 100000
set_option maxHeartbeats 2000000
namespace KR
open PySem L2
/-! ### pure operations on data, over the layer's rules on values -/
def r2 (K : PySem.W.Frag) (C : Addr) (op : Om → D → D → Option D) : R2 := fun v u H Q => ∃ F B o x y z, Sub F H ∧ Store K C F B H o ∧ Is K F B v x ∧ Is K F B u y ∧ op o x y = some z ∧
  ∀ F' H' w, Grow F H F' H' → Is K F' B w z → Q w H'
def r1 (K : PySem.W.Frag) (C : Addr) (op : Om → D → Option D) : V → Hp → VK → Prop := fun v H Q => ∃ F B o x z, Sub F H ∧ Store K C F B H o ∧ Is K F B v x ∧ op o x = some z ∧
  ∀ F' H' w, Grow F H F' H' → Is K F' B w z → Q w H'
def rN (K : PySem.W.Frag) (C : Addr) (op : Om → List D → Option D) : List V → Hp → VK → Prop := fun vs H Q => ∃ F B o xs z, Sub F H ∧ Store K C F B H o ∧ IsL K F B vs xs ∧ op o xs = some z ∧
  ∀ F' H' w, Grow F H F' H' → Is K F' B w z → Q w H'
def dC (x : D) : DE := fun _ o => .ok x o
def dVar (i : Nat) : DE := fun ρ o => match ρ[i]? with
  | some (.d x) => .ok x o
  | _ => .bad
def d2 (op : Om → D → D → Option D) (f g : DE) : DE := fun ρ o => (f ρ o).bind fun x o1 => (g ρ o1).bind fun y o2 => .of o2 (op o2 x y)
def d1 (op : Om → D → Option D) (f : DE) : DE := fun ρ o => (f ρ o).bind fun x o1 => .of o1 (op o1 x)
def dN (op : Om → List D → Option D) (f : DA) : DE := fun ρ o => (f ρ o).bind fun xs o1 => .of o1 (op o1 xs)
def dNil : DA := fun _ o => .ok [] o
def dCons (f : DE) (g : DA) : DA := fun ρ o => (f ρ o).bind fun x o1 => (g ρ o1).bind fun xs o2 => .ok (x :: xs) o2
section
variable {X : Cx} {C : Addr} {E : XK} {a b c : Expr} {f g h : DE} {pos : Pos}
/-- the layer's reading of a value operation, wanted -/
theorem con_of {F H : Hp} {B : List Addr} {o : Om} {z : Option D} {K : PySem.W.Frag} {Q : VK} (h : Con K C (Is K) E F H B Q (Res.of o z)) (s : Store K C F B H o) :
    ∃ w, z = some w ∧ ∀ F' H' v, Grow F H F' H' → Is K F' B v w → Q v H' := by
  cases z with
  | none => exact h.elim
  | some w => exact ⟨w, rfl, fun F' H' v g i => Con.pure h g s i⟩
theorem eC {x : D} {v : V} (h : PE X a (tC v)) (r : ∀ F B, Is X.K F B v x) : EX X C E a (dC x) := PE.imp h fun σ H Q ⟨F, B, ρ, o, e, s, n, c⟩ => by
  exact Con.pure c (Grow.refl e) s (r F B)
theorem eInt {i : Int} {j : Nat} : EX X C E (.Constant (.int i) j pos) (dC (.int i)) := eC pe_int fun _ _ => .int i
theorem eBl {i : Bool} {j : Nat} : EX X C E (.Constant (.bool i) j pos) (dC (.bl i)) := eC pe_bl fun _ _ => .bl i
theorem eNon {j : Nat} : EX X C E (.Constant .none j pos) (dC .non) := eC pe_non fun _ _ => .non
theorem eStr {i : Str} {j : Nat} : EX X C E (.Constant (.str i) j pos) (dC (.str i)) := eC pe_str fun _ _ => .str i
/-- a whole number of the module -/
theorem eGlo {x : Str} {i : Int} (hg : Gl X x) (hm : ∃ t, X.mg x = some (.int i t)) (hd : (x == ("__debug__" : Str)) = false := by decide) : EX X C E (.Name x pos) (dC (.int i)) := by
  obtain ⟨t, hm⟩ := hm
  exact eC (pe_glob (v := .int i) hg hm ⟨t, rfl⟩ hd) fun _ _ => .int i
theorem eVar (i : Nat) {x : Str} (hN : X.N[i]? = some x := by rfl) (hv : Vis X.env.scope x := by first | exact Or.inl rfl | exact Or.inr (Or.inl rfl) | exact Or.inr (Or.inr rfl)) (hd : (x == ("__debug__" : Str)) = false := by decide) (hcd : (x == ("__classdict__" : Str)) = false := by decide) :
    EX X C E (.Name x pos) (dVar i) := PE.imp (pe_var hN hv hd hcd) fun σ H Q ⟨F, B, ρ, o, e, s, n, c⟩ => by
  cases q : ρ[i]? with
  | none => simp only [dVar, q] at c; exact c.elim
  | some y =>
    cases y with
    | d x =>
      simp only [dVar, q] at c
      obtain ⟨v, h1, h2⟩ := n.dat i x q
      exact ⟨v, h1, Con.pure c (Grow.refl e) s h2⟩
    | _ => simp only [dVar, q] at c; exact c.elim
theorem e2 {op : Operator} {r : Om → D → D → Option D} (ho : OpR X (binaryOp op) (r2 X.K C r)) (ha : EX X C E a f) (hb : EX X C E b g) : EX X C E (.BinOp a op b pos) (d2 r f g) :=
  PE.imp (pe_op ho ha hb) fun σ H Q ⟨F, B, ρ, o, e, s, n, c⟩ => ⟨F, B, ρ, o, e, s, n, Con.then c fun x o1 F1 H1 B1 v st1 s1 i1 c1 => ⟨F1, B1, ρ, o1, st1.fh, s1, n.step st1, Con.then c1 fun y o2 F2 H2 B2 u st2 s2 i2 c2 => by
    obtain ⟨z, hz, k⟩ := con_of c2 s2
    exact ⟨F2, B2, o2, x, y, z, st2.fh, s2, st2.is i1, i2, hz, k⟩⟩⟩
theorem eCmp {op : CmpOp} {r : Om → D → D → Option D} (ho : OpR X (compareOp op) (r2 X.K C r)) (ha : EX X C E a f) (hb : EX X C E b g) (hm : behindInMarks op b = false := by first | exact nomark _ | rfl) : EX X C E (.Compare a [op] [b] pos) (d2 r f g) :=
  PE.imp (pe_cmpR ho ha hb hm) fun σ H Q ⟨F, B, ρ, o, e, s, n, c⟩ => ⟨F, B, ρ, o, e, s, n, Con.then c fun x o1 F1 H1 B1 v st1 s1 i1 c1 => ⟨F1, B1, ρ, o1, st1.fh, s1, n.step st1, Con.then c1 fun y o2 F2 H2 B2 u st2 s2 i2 c2 => by
    obtain ⟨z, hz, k⟩ := con_of c2 s2
    exact ⟨F2, B2, o2, x, y, z, st2.fh, s2, st2.is i1, i2, hz, k⟩⟩⟩
theorem e1 {op : UnaryOp} {r : Om → D → Option D} (ho : UnR X (unaryOp op) (r1 X.K C r)) (ha : EX X C E a f) : EX X C E (.UnaryOp op a pos) (d1 r f) :=
  PE.imp (pe_un ho ha) fun σ H Q ⟨F, B, ρ, o, e, s, n, c⟩ => ⟨F, B, ρ, o, e, s, n, Con.then c fun x o1 F1 H1 B1 v st1 s1 i1 c1 => by
    obtain ⟨z, hz, k⟩ := con_of c1 s1
    exact ⟨F1, B1, o1, x, z, st1.fh, s1, i1, hz, k⟩⟩
theorem eIxR {r : Om → D → D → Option D} (ho : IxR X (r2 X.K C r)) (ha : EX X C E a f) (hb : EX X C E b g) (hs : PlainIx b := by intro _ _; rfl) : EX X C E (.Subscript a b pos) (d2 r f g) :=
  PE.imp (pe_ix ho ha hb hs) fun σ H Q ⟨F, B, ρ, o, e, s, n, c⟩ => ⟨F, B, ρ, o, e, s, n, Con.then c fun x o1 F1 H1 B1 v st1 s1 i1 c1 => ⟨F1, B1, ρ, o1, st1.fh, s1, n.step st1, Con.then c1 fun y o2 F2 H2 B2 u st2 s2 i2 c2 => by
    obtain ⟨z, hz, k⟩ := con_of c2 s2
    exact ⟨F2, B2, o2, x, y, z, st2.fh, s2, st2.is i1, i2, hz, k⟩⟩⟩
theorem aNil : EA X C E [] dNil := PA.imp pa_nil fun σ H Q ⟨F, B, ρ, o, e, s, n, c⟩ => Con.pure c (Grow.refl e) s .nil
theorem aCons {es : List Expr} {g : DA} (ha : EX X C E a f) (hr : EA X C E es g) (hs : starEach (a :: es) X.env = (false, eval a X.env) :: starEach es X.env := by rfl) : EA X C E (a :: es) (dCons f g) :=
  PA.imp (pa_cons ha hr hs) fun σ H Q ⟨F, B, ρ, o, e, s, n, c⟩ => ⟨F, B, ρ, o, e, s, n, Con.then c fun x o1 F1 H1 B1 v st1 s1 i1 c1 => ⟨F1, B1, ρ, o1, st1.fh, s1, n.step st1, Con.then c1 fun xs o2 F2 H2 B2 u st2 s2 i2 c2 =>
    Con.pure c2 (Grow.refl st2.fh) s2 (.cons (st2.is i1) i2)⟩⟩
/-! displays -/
def opLst : Om → List D → Option D := fun _ xs => if xs.length ≤ 100000 then some (.lst xs) else none
def opTup : Om → List D → Option D := fun _ xs => if xs.length ≤ 100000 then some (.tup xs) else none
theorem sz {n : Nat} (h : n ≤ 100000) : n ≤ sizeLine := Nat.le_trans h (by decide)
theorem eLst {es : List Expr} {g : DA} (ha : EA X C E es g) : EX X C E (.List es pos) (dN opLst g) := PE.imp (pe_lst ha) fun σ H Q ⟨F, B, ρ, o, e, s, n, c⟩ => ⟨F, B, ρ, o, e, s, n, Con.then c fun xs o1 F1 H1 B1 vs st1 s1 i1 c1 => by
  unfold opLst at c1
  by_cases hl : xs.length ≤ 100000
  · rw [if_pos hl] at c1
    refine ⟨sz (by rw [i1.length]; exact hl), fun p hp => ?_⟩
    have g := Grow.new (o := .lst vs) st1.fh hp
    exact Con.pure c1 g s1 (.lst upd_same (i1.mono g.ff fun _ _ h => h))
  · rw [if_neg hl] at c1; exact c1.elim⟩
theorem eTup {es : List Expr} {g : DA} {k : Nat} (ha : EA X C E es g) : EX X C E (.Tuple es k pos) (dN opTup g) := PE.imp (pe_tup ha) fun σ H Q ⟨F, B, ρ, o, e, s, n, c⟩ => ⟨F, B, ρ, o, e, s, n, Con.then c fun xs o1 F1 H1 B1 vs st1 s1 i1 c1 => by
  unfold opTup at c1
  by_cases hl : xs.length ≤ 100000
  · rw [if_pos hl] at c1
    refine ⟨sz (by rw [i1.length]; exact hl), fun p hp => ?_⟩
    have g := Grow.new (o := .tup vs) st1.fh hp
    exact Con.pure c1 g s1 (.tup upd_same (i1.mono g.ff fun _ _ h => h))
  · rw [if_neg hl] at c1; exact c1.elim⟩
/-! tests, and, or, not, if -/
def asB : D → Option Bool
  | .bl b => some b
  | _ => none
def dT (f : DE) : DB := fun ρ o => (f ρ o).bind fun x o1 => .of o1 (asB x)
def dAnd (f g : DB) : DB := fun ρ o => (f ρ o).bind fun x o1 => if x = true then g ρ o1 else .ok false o1
def dOr (f g : DB) : DB := fun ρ o => (f ρ o).bind fun x o1 => if x = true then .ok true o1 else g ρ o1
def dNot (f : DB) : DB := fun ρ o => (f ρ o).bind fun x o1 => .ok (!x) o1
def dIf (t : DB) (f g : DE) : DE := fun ρ o => (t ρ o).bind fun x o1 => if x = true then f ρ o1 else g ρ o1
theorem tEx (ha : EX X C E a f) (he : ∀ whole, isTrue a X.env whole = (do let v ← whole; standAt a.pos; holding [v] (truthy v)) := by intro _; rfl) : ET X C E a (dT f) :=
  PT.imp (pt_val ha he) fun σ H Q ⟨F, B, ρ, o, e, s, n, c⟩ => ⟨F, B, ρ, o, e, s, n, Con.then c fun x o1 F1 H1 B1 v st1 s1 i1 c1 => by
    cases i1 with
    | bl b => exact ⟨b, rfl, Con.pure (rel := relB) c1 (Grow.refl st1.fh) s1 rfl⟩
    | _ => exact c1.elim⟩
variable {tf tg : DB}
theorem tNot' (ha : ET X C E a tf) : ET X C E (.UnaryOp .Not a pos) (dNot tf) := PT.imp (pt_not ha) fun σ H Q ⟨F, B, ρ, o, e, s, n, c⟩ => ⟨F, B, ρ, o, e, s, n, Con.then c fun x o1 F1 H1 B1 v st1 s1 i1 c1 => by
  cases i1
  exact Con.pure c1 (Grow.refl st1.fh) s1 rfl⟩
/-- a chain of and, or, as a test -/
structure EW (X : Cx) (C : Addr) (E : XK) (e : Expr) (f : DB) : Prop where
  w : PW X e (tT X.K C E f)
theorem PW.imp {e : Expr} {t t' : TT} (h : PW X e t) (i : ∀ σ H Q, t' σ H Q → t σ H Q) : PW X e t' := ⟨fun wh pins s σ H Q I q => h.run wh pins s σ H Q I (i σ H Q q)⟩
theorem EW.t {e : Expr} {f : DB} (h : EW X C E e f) : ET X C E e f := h.w.pt
theorem wAnd1 (ha : ET X C E a tf) : EW X C E (.BoolOp .And [a] pos) tf := ⟨pw_and1 ha⟩
theorem wOr1 (ha : ET X C E a tf) : EW X C E (.BoolOp .Or [a] pos) tf := ⟨pw_or1 ha⟩
theorem wAnd {rest : List Expr} (ha : ET X C E a tf) (hb : EW X C E (.BoolOp .And (b :: rest) pos) tg) : EW X C E (.BoolOp .And (a :: b :: rest) pos) (dAnd tf tg) :=
  ⟨PW.imp (pw_and ha hb.w) fun σ H Q ⟨F, B, ρ, o, e, s, n, c⟩ => ⟨F, B, ρ, o, e, s, n, Con.then c fun x o1 F1 H1 B1 v st1 s1 i1 c1 => by
    cases i1
    cases x with
    | true => exact ⟨F1, B1, ρ, o1, st1.fh, s1, n.step st1, c1⟩
    | false => exact Con.pure (rel := relB) c1 (Grow.refl st1.fh) s1 rfl⟩⟩
theorem wOr {rest : List Expr} (ha : ET X C E a tf) (hb : EW X C E (.BoolOp .Or (b :: rest) pos) tg) : EW X C E (.BoolOp .Or (a :: b :: rest) pos) (dOr tf tg) :=
  ⟨PW.imp (pw_or ha hb.w) fun σ H Q ⟨F, B, ρ, o, e, s, n, c⟩ => ⟨F, B, ρ, o, e, s, n, Con.then c fun x o1 F1 H1 B1 v st1 s1 i1 c1 => by
    cases i1
    cases x with
    | true => exact Con.pure (rel := relB) c1 (Grow.refl st1.fh) s1 rfl
    | false => exact ⟨F1, B1, ρ, o1, st1.fh, s1, n.step st1, c1⟩⟩⟩
theorem eIf (ht : ET X C E c tf) (ha : EX X C E a f) (hb : EX X C E b g) : EX X C E (.IfExp c a b pos) (dIf tf f g) :=
  PE.imp (pe_ifExp ht ha hb) fun σ H Q ⟨F, B, ρ, o, e, s, n, c⟩ => ⟨F, B, ρ, o, e, s, n, Con.then c fun x o1 F1 H1 B1 v st1 s1 i1 c1 => by
    cases i1
    cases x with
    | true => exact ⟨F1, B1, ρ, o1, st1.fh, s1, n.step st1, c1⟩
    | false => exact ⟨F1, B1, ρ, o1, st1.fh, s1, n.step st1, c1⟩⟩
/-! and, or, not as values -/
def dAndV (f g : DE) : DE := fun ρ o => (dT f ρ o).bind fun x o1 => if x = true then g ρ o1 else .ok (.bl false) o1
def dOrV (f g : DE) : DE := fun ρ o => (dT f ρ o).bind fun x o1 => if x = true then .ok (.bl true) o1 else g ρ o1
def dNotV (f : DE) : DE := fun ρ o => (dT f ρ o).bind fun x o1 => .ok (.bl (!x)) o1
theorem dT_then {β δ : Type} {rel2 : Hp → List Addr → δ → β → Prop} {K : PySem.W.Frag} {F H : Hp} {B : List Addr} {o : Om} {ρ : Rho} {Q : δ → Hp → Prop} {Q1 : VK} {k : Bool → Om → Res β} (c : Con K C rel2 E F H B Q ((dT f ρ o).bind k))
    (hk : ∀ x o1 F1 H1 B1, Step F H B F1 H1 B1 → Store K C F1 B1 H1 o1 → Con K C rel2 E F1 H1 B1 Q (k x o1) → Q1 (.bl x) H1) : Con K C (Is K) E F H B Q1 (f ρ o) := by
  have e : (dT f ρ o).bind k = (f ρ o).bind fun x o1 => (Res.of o1 (asB x)).bind k := by
    unfold dT
    cases f ρ o <;> rfl
  rw [e] at c
  refine Con.then c fun x o1 F1 H1 B1 v st1 s1 i1 c1 => ?_
  cases i1 with
  | bl b => exact hk b o1 F1 H1 B1 st1 s1 c1
  | _ => exact c1.elim
theorem eOne {op : BoolOp} (ha : EX X C E a f) : EX X C E (.BoolOp op [a] pos) f := pe_one ha
theorem eAnd {rest : List Expr} (ha : EX X C E a f) (hb : EX X C E (.BoolOp .And (b :: rest) pos) g) : EX X C E (.BoolOp .And (a :: b :: rest) pos) (dAndV f g) :=
  PE.imp (pe_and ha hb) fun σ H Q ⟨F, B, ρ, o, e, s, n, c⟩ => ⟨F, B, ρ, o, e, s, n, dT_then c fun x o1 F1 H1 B1 st1 s1 c1 => ⟨x, rfl, by
    cases x with
    | true => exact ⟨F1, B1, ρ, o1, st1.fh, s1, n.step st1, c1⟩
    | false => exact Con.pure (rel := Is X.K) c1 (Grow.refl st1.fh) s1 (.bl false)⟩⟩
theorem eOr {rest : List Expr} (ha : EX X C E a f) (hb : EX X C E (.BoolOp .Or (b :: rest) pos) g) : EX X C E (.BoolOp .Or (a :: b :: rest) pos) (dOrV f g) :=
  PE.imp (pe_or ha hb) fun σ H Q ⟨F, B, ρ, o, e, s, n, c⟩ => ⟨F, B, ρ, o, e, s, n, dT_then c fun x o1 F1 H1 B1 st1 s1 c1 => ⟨x, rfl, by
    cases x with
    | true => exact Con.pure (rel := Is X.K) c1 (Grow.refl st1.fh) s1 (.bl true)
    | false => exact ⟨F1, B1, ρ, o1, st1.fh, s1, n.step st1, c1⟩⟩⟩
theorem eNot (ha : EX X C E a f) : EX X C E (.UnaryOp .Not a pos) (dNotV f) :=
  PE.imp (pe_not ha) fun σ H Q ⟨F, B, ρ, o, e, s, n, c⟩ => ⟨F, B, ρ, o, e, s, n, dT_then c fun x o1 F1 H1 B1 st1 s1 c1 => ⟨x, rfl, Con.pure (rel := Is X.K) c1 (Grow.refl st1.fh) s1 (.bl _)⟩⟩
/-! two comparisons in a row -/
def dChain (r r' : Om → D → D → Option D) (f g h : DE) : DE := fun ρ o => (f ρ o).bind fun x o1 => (g ρ o1).bind fun y o2 => (Res.of o2 ((r o2 x y).bind asB)).bind fun k o3 =>
  if k = true then (h ρ o3).bind fun z o4 => .of o4 (r' o4 y z) else .ok (.bl false) o3
theorem eChain {op op' : CmpOp} {r r' : Om → D → D → Option D} (ho : OpR X (compareOp op) (r2 X.K C r)) (ho' : OpR X (compareOp op') (r2 X.K C r')) (ha : EX X C E a f) (hb : EX X C E b g) (hc : EX X C E c h) (hm : lastMarks [op, op'] [b, c] = false := by with_unfolding_all rfl) :
    EX X C E (.Compare a [op, op'] [b, c] pos) (dChain r r' f g h) :=
  PE.imp (pe_chain ho ho' ha hb hc hm) fun σ H Q ⟨F, B, ρ, o, e, s, n, c⟩ => ⟨F, B, ρ, o, e, s, n, Con.then c fun x o1 F1 H1 B1 v st1 s1 i1 c1 => ⟨F1, B1, ρ, o1, st1.fh, s1, n.step st1, Con.then c1 fun y o2 F2 H2 B2 u st2 s2 i2 c2 => by
    cases q : r o2 x y with
    | none => rw [q] at c2; exact c2.elim
    | some z =>
      rw [q] at c2
      refine ⟨F2, B2, o2, x, y, z, st2.fh, s2, st2.is i1, i2, q, fun F3 H3 w g3 i3 => ?_⟩
      cases i3 with
      | bl k =>
        refine ⟨k, rfl, ?_⟩
        have c3 := Con.step c2 (Step.of g3)
        cases k with
        | true => exact ⟨F3, B2, ρ, o2, g3.fh, s2.grow g3, (n.step st1).step (st2.trans (Step.of g3)), Con.then c3 fun z o4 F4 H4 B4 w st4 s4 i4 c4 => by
            obtain ⟨z', hz, k⟩ := con_of c4 s4
            exact ⟨F4, B4, o4, y, z, z', st4.fh, s4, ((Step.of g3).trans st4).is i2, i4, hz, k⟩⟩
        | false => exact Con.pure (rel := Is X.K) c3 (Grow.refl g3.fh) (s2.grow g3) (.bl false)
      | _ => exact c2.elim⟩⟩
/-! calls of built-ins -/
theorem eCallB {x : Str} {id : String} {p : Pos} {es : List Expr} {r : Om → List D → Option D} {fa : DA} (hc : CallR X (.builtin id) (rN X.K C r)) (hg : Gl X x) (hm : X.mg x = none) (hv : bootBuiltins x = some (.builtin id)) (ha : EA X C E (a :: es) fa) (hn : x ≠ "__name__" := by decide) (hdb : (x == ("__debug__" : Str)) = false := by decide)
    (he : starEach (a :: es) X.env = (false, eval a X.env) :: starEach es X.env := by rfl) (hpl : (backTo pos (starEach es X.env)).any (·.1) = false := by rfl) : EX X C E (.Call (.Name x p) (a :: es) [] pos) (dN r fa) :=
  PE.imp (pe_callB hc hg hm hv ha hn hdb he hpl) fun σ H Q ⟨F, B, ρ, o, e, s, n, c⟩ => ⟨F, B, ρ, o, e, s, n, Con.then c fun xs o1 F1 H1 B1 v st1 s1 i1 c1 => by
    obtain ⟨z, hz, k⟩ := con_of c1 s1
    exact ⟨F1, B1, o1, xs, z, st1.fh, s1, i1, hz, k⟩⟩
theorem eCallTy {x : Str} {id : String} {p : Pos} {es : List Expr} {r : Om → List D → Option D} {fa : DA} (hc : CallR X (.type id) (rN X.K C r)) (hg : Gl X x) (hm : X.mg x = none) (hv : bootBuiltins x = some (.type id)) (ha : EA X C E (a :: es) fa) (hn : x ≠ "__name__" := by decide) (hdb : (x == ("__debug__" : Str)) = false := by decide)
    (he : starEach (a :: es) X.env = (false, eval a X.env) :: starEach es X.env := by rfl) (hpl : (backTo pos (starEach es X.env)).any (·.1) = false := by rfl) : EX X C E (.Call (.Name x p) (a :: es) [] pos) (dN r fa) :=
  PE.imp (pe_callTy hc hg hm hv ha hn hdb he hpl) fun σ H Q ⟨F, B, ρ, o, e, s, n, c⟩ => ⟨F, B, ρ, o, e, s, n, Con.then c fun xs o1 F1 H1 B1 v st1 s1 i1 c1 => by
    obtain ⟨z, hz, k⟩ := con_of c1 s1
    exact ⟨F1, B1, o1, xs, z, st1.fh, s1, i1, hz, k⟩⟩
/-! slices -/
abbrev DO := Rho → Om → Res (Option Int)
def relO : Hp → List Addr → Option Int → Option Int → Prop := fun _ _ v x => v = x
abbrev EO (X : Cx) (C : Addr) (E : XK) (e : Option Expr) (f : DO) : Prop := PO X e (tOf X.K C relO E f)
theorem PO.imp {e : Option Expr} {t t' : TO} (h : PO X e t) (i : ∀ σ H Q, t' σ H Q → t σ H Q) : PO X e t' := ⟨fun pins s σ H Q I q => h.run pins s σ H Q I (i σ H Q q)⟩
def asI : D → Option Int
  | .int b => some b
  | _ => none
def doNo : DO := fun _ o => .ok none o
def doSo (f : DE) : DO := fun ρ o => (f ρ o).bind fun x o1 => .of o1 ((asI x).map some)
theorem oNo : EO X C E none doNo := PO.imp po_none fun σ H Q ⟨F, B, ρ, o, e, s, n, c⟩ => Con.pure (rel := relO) c (Grow.refl e) s rfl
theorem oSo (ha : EX X C E a f) : EO X C E (some a) (doSo f) := PO.imp (po_some ha) fun σ H Q ⟨F, B, ρ, o, e, s, n, c⟩ => ⟨F, B, ρ, o, e, s, n, Con.then c fun x o1 F1 H1 B1 v st1 s1 i1 c1 => by
  cases i1 with
  | int i => exact ⟨i, rfl, Con.pure (rel := relO) c1 (Grow.refl st1.fh) s1 rfl⟩
  | _ => exact c1.elim⟩
def rSl (K : PySem.W.Frag) (C : Addr) (op : Om → D → Option Int → Option Int → Option D) : V → Option Int → Option Int → Hp → VK → Prop := fun v lo hi H Q => ∃ F B o x z, Sub F H ∧ Store K C F B H o ∧ Is K F B v x ∧ op o x lo hi = some z ∧
  ∀ F' H' w, Grow F H F' H' → Is K F' B w z → Q w H'
def dSl (op : Om → D → Option Int → Option Int → Option D) (f : DE) (l u : DO) : DE := fun ρ o => (f ρ o).bind fun x o1 => (l ρ o1).bind fun lo o2 => (u ρ o2).bind fun hi o3 => .of o3 (op o3 x lo hi)
theorem eSl {op : Om → D → Option Int → Option Int → Option D} {lo hi : Option Expr} {l u : DO} {p2 : Pos} (hr : SlR X (rSl X.K C op)) (ha : EX X C E a f) (hl : EO X C E lo l) (hu : EO X C E hi u) : EX X C E (.Subscript a (.Slice lo hi none p2) pos) (dSl op f l u) :=
  PE.imp (pe_slice hr ha hl hu) fun σ H Q ⟨F, B, ρ, o, e, s, n, c⟩ => ⟨F, B, ρ, o, e, s, n, Con.then c fun x o1 F1 H1 B1 v st1 s1 i1 c1 => ⟨F1, B1, ρ, o1, st1.fh, s1, n.step st1, Con.then c1 fun y o2 F2 H2 B2 u st2 s2 i2 c2 =>
    ⟨F2, B2, ρ, o2, st2.fh, s2, (n.step st1).step st2, Con.then c2 fun y' o3 F3 H3 B3 u' st3 s3 i3 c3 => by
      obtain ⟨z, hz, k⟩ := con_of c3 s3
      cases i2
      cases i3
      exact ⟨F3, B3, o3, x, z, st3.fh, s3, (st2.trans st3).is i1, hz, k⟩⟩⟩⟩
end
end KR
set_option Elab.async false
set_option linter.all false
set_option maxRecDepth 100000
set_option maxHeartbeats 2000000
namespace KR
open PySem L2
/-! ### the operations -/
def opAdd (o : Om) (x y : D) : Option D := match x, y with
  | .int i, .int j => some (.int (i + j))
  | .tup xs, .tup ys => if xs.isEmpty = false ∧ xs.length + ys.length ≤ 100000 then some (.tup (xs ++ ys)) else none
  | x, y => match lv o x, lv o y with
    | some xs, some ys => if xs.length + ys.length ≤ 100000 then some (.lst (xs ++ ys)) else none
    | _, _ => none
def opSub (_ : Om) (x y : D) : Option D := match x, y with
  | .int i, .int j => some (.int (i - j))
  | _, _ => none
def opMul (o : Om) (x y : D) : Option D := match x, y with
  | .int i, .int j => if (-(2 ^ 64) < i ∧ i < 2 ^ 64) ∨ (-(2 ^ 64) < j ∧ j < 2 ^ 64) then some (.int (i * j)) else none
  | x, .int k => match lv o x with
    | some xs => if -1000 ≤ k ∧ k ≤ 1000 ∧ xs.length ≤ 1000 then some (.lst (List.replicate k.toNat xs).flatten) else none
    | none => none
  | _, _ => none
def opMod (_ : Om) (x y : D) : Option D := match x, y with
  | .int i, .int j => if 0 < j then some (.int (i % j)) else none
  | _, _ => none
def opDiv (_ : Om) (x y : D) : Option D := match x, y with
  | .int i, .int j => if 0 < j ∧ j < 1073741824 then some (.int (i / j)) else none
  | _, _ => none
def opPow (_ : Om) (x y : D) : Option D := match x, y with
  | .int i, .int j => if 0 ≤ j ∧ j ≤ 100 ∧ 0 ≤ i ∧ i ≤ 100 then some (.int (i ^ j.toNat)) else none
  | _, _ => none
def opNeg (_ : Om) (x : D) : Option D := match x with
  | .int i => some (.int (-i))
  | _ => none
def opI (p : Int → Int → Bool) (_ : Om) (x y : D) : Option D := match x, y with
  | .int i, .int j => some (.bl (p i j))
  | _, _ => none
abbrev opLt := opI fun i j => decide (i < j)
abbrev opLe := opI fun i j => decide (i ≤ j)
abbrev opGt := opI fun i j => decide (j < i)
abbrev opGe := opI fun i j => decide (j ≤ i)
def isN : D → Bool
  | .non => true
  | _ => false
def opIs (_ : Om) (x y : D) : Option D := match y with
  | .non => some (.bl (isN x))
  | _ => none
def opIsNot (_ : Om) (x y : D) : Option D := match y with
  | .non => some (.bl (!isN x))
  | _ => none
def flatD : D → Bool
  | .non => true | .bl _ => true | .int _ => true | .str _ => true | _ => false
def eqF : D → D → Bool
  | .non, .non => true
  | .bl a, .bl b => a == b
  | .bl a, .int b => (if a then 1 else 0) == b
  | .int a, .bl b => a == (if b then 1 else 0)
  | .int a, .int b => a == b
  | .str a, .str b => a == b
  | _, _ => false
def inD (x : D) (xs : List D) : Bool := xs.any fun y => eqF y x
def opIn (o : Om) (x y : D) : Option D := match qv o y with
  | some xs => if flatD x = true ∧ xs.all flatD = true then some (.bl (inD x xs)) else none
  | none => none
def opNotIn (o : Om) (x y : D) : Option D := match qv o y with
  | some xs => if flatD x = true ∧ xs.all flatD = true then some (.bl (!inD x xs)) else none
  | none => none
def opIx (o : Om) (x y : D) : Option D := match y with
  | .int i => (qv o x).bind fun xs => L2.atI xs i
  | _ => none
def cutD (xs : List D) (lo hi : Option Int) : List D := (xs.drop (HT.sIx xs.length 0 lo)).take (HT.sIx xs.length xs.length hi - HT.sIx xs.length 0 lo)
def opSl (o : Om) (x : D) (lo hi : Option Int) : Option D := match x with
  | .tup xs => if HT.sIx xs.length 0 lo = 0 ∧ HT.sIx xs.length xs.length hi = xs.length then none else some (.tup (cutD xs lo hi))
  | x => (lv o x).map fun xs => .lst (cutD xs lo hi)
def opRev (o : Om) (x : D) : Option D := (lv o x).map fun xs => .lst xs.reverse
/-- data, to be compared -/
def toPy (o : Om) : Nat → D → Option PyData
  | 0, _ => none
  | k + 1, d => match d with
    | .non => some .none
    | .bl b => some (.bool b)
    | .int i => some (.int i)
    | .str s => if PyData.strOk s = true then some (.str s) else none
    | .tup xs => (xs.mapM (toPy o k)).map .tuple
    | .lst xs => (xs.mapM (toPy o k)).map .list
    | .obj n => match o[n]? with
      | some (.ml xs) => (xs.mapM (toPy o k)).map .list
      | _ => none
    | .scr _ => none
    | .exn _ _ _ => none
def opEq (o : Om) (x y : D) : Option D := match toPy o 9 x, toPy o 9 y with
  | some p, some q => some (.bl (PyData.eqv p q))
  | _, _ => none
def opNe (o : Om) (x y : D) : Option D := match toPy o 9 x, toPy o 9 y with
  | some p, some q => some (.bl (!PyData.eqv p q))
  | _, _ => none
def opLen (o : Om) (xs : List D) : Option D := match xs with
  | [x] => (qv o x).map fun ys => .int ys.length
  | _ => none
def allI : List D → Option (List Int)
  | [] => some []
  | .int i :: r => (allI r).map (i :: ·)
  | _ :: _ => none
def maxL : List Int → Int
  | [] => 0
  | [a] => a
  | a :: r => max a (maxL r)
def minL : List Int → Int
  | [] => 0
  | [a] => a
  | a :: r => min a (minL r)
def opMax (o : Om) (xs : List D) : Option D := match xs with
  | [.int i, .int j] => some (.int (max i j))
  | [x] => match (lv o x).bind allI with
    | some (a :: r) => some (.int (maxL (a :: r)))
    | _ => none
  | _ => none
def opMin (o : Om) (xs : List D) : Option D := match xs with
  | [.int i, .int j] => some (.int (min i j))
  | [x] => match (lv o x).bind allI with
    | some (a :: r) => some (.int (minL (a :: r)))
    | _ => none
  | _ => none
def opList (o : Om) (xs : List D) : Option D := match xs with
  | [x] => (qv o x).map .lst
  | _ => none
def opTuple (o : Om) (xs : List D) : Option D := match xs with
  | [.tup ys] => some (.tup ys)
  | [x] => (lv o x).map .tup
  | _ => none
def opInt (_ : Om) (xs : List D) : Option D := match xs with
  | [.bl b] => some (.int (if b then 1 else 0))
  | [.int i] => some (.int i)
  | _ => none
/-- rising -/
def insI (a : Int) : List Int → List Int
  | [] => [a]
  | b :: r => if a ≤ b then a :: b :: r else b :: insI a r
def srtI : List Int → List Int
  | [] => []
  | a :: r => insI a (srtI r)
def opSorted (o : Om) (xs : List D) : Option D := match xs with
  | [x] => ((lv o x).bind allI).map fun ns => .lst ((srtI ns).map .int)
  | _ => none
/-! facts -/
section
variable {K : PySem.W.Frag} {C : Addr} {F F' H H' : Hp} {B B' : List Addr} {o o' : Om}
theorem flat_is {v : V} {d : D} (h : Is K F B v d) (f : flatD d = true) : flatV v = true := by cases h <;> first | rfl | cases f
theorem flat_all : ∀ {vs : List V} {ds : List D}, IsL K F B vs ds → ds.all flatD = true → vs.all flatV = true
  | _, _, .nil, _ => rfl
  | _, _, .cons h1 h2, f => by
    rw [List.all_cons, Bool.and_eq_true] at f ⊢
    exact ⟨flat_is h1 f.1, flat_all h2 f.2⟩
theorem eqF_is {v u : V} {d e : D} (h : Is K F B v d) (g : Is K F B u e) (f : flatD d = true) (f' : flatD e = true) : eqV v u = eqF d e := by
  cases h <;> cases g <;> first | rfl | cases f | cases f'
theorem inD_is {v : V} {d : D} (h : Is K F B v d) (f : flatD d = true) : ∀ {vs : List V} {ds : List D}, IsL K F B vs ds → ds.all flatD = true → inV v vs = inD d ds
  | _, _, .nil, _ => rfl
  | _, _, .cons h1 h2, f' => by
    rw [List.all_cons, Bool.and_eq_true] at f'
    unfold inV inD
    rw [List.any_cons, List.any_cons, eqF_is h1 h f'.1 f]
    have ih := inD_is h f h2 f'.2
    unfold inV inD at ih
    rw [ih]
theorem allI_is : ∀ {ds : List D} {ns : List Int}, allI ds = some ns → ds = ns.map D.int
  | [], ns, h => by cases h; rfl
  | .int i :: r, ns, h => by
    unfold allI at h
    cases q : allI r with
    | none => rw [q] at h; cases h
    | some ms => rw [q] at h; cases h; rw [List.map_cons, ← allI_is q]
  | .non :: _, _, h => by cases h
  | .bl _ :: _, _, h => by cases h
  | .str _ :: _, _, h => by cases h
  | .lst _ :: _, _, h => by cases h
  | .tup _ :: _, _, h => by cases h
  | .obj _ :: _, _, h => by cases h
  | .scr _ :: _, _, h => by cases h
theorem maxL_mem : ∀ (a : Int) (r : List Int), maxL (a :: r) ∈ a :: r ∧ ∀ y, y ∈ a :: r → y ≤ maxL (a :: r)
  | a, [] => ⟨List.mem_cons_self, fun y h => by rcases List.mem_cons.mp h with rfl | h; exact Int.le_refl _; cases h⟩
  | a, b :: r => by
    obtain ⟨h1, h2⟩ := maxL_mem b r
    show max a (maxL (b :: r)) ∈ a :: b :: r ∧ _
    refine ⟨?_, fun y h => ?_⟩
    · rcases Int.le_total a (maxL (b :: r)) with q | q
      · rw [Int.max_eq_right q]; exact List.mem_cons_of_mem _ h1
      · rw [Int.max_eq_left q]; exact List.mem_cons_self
    · show y ≤ max a (maxL (b :: r))
      rcases List.mem_cons.mp h with rfl | h
      · exact Int.le_max_left _ _
      · exact Int.le_trans (h2 y h) (Int.le_max_right _ _)
theorem minL_mem : ∀ (a : Int) (r : List Int), minL (a :: r) ∈ a :: r ∧ ∀ y, y ∈ a :: r → minL (a :: r) ≤ y
  | a, [] => ⟨List.mem_cons_self, fun y h => by rcases List.mem_cons.mp h with rfl | h; exact Int.le_refl _; cases h⟩
  | a, b :: r => by
    obtain ⟨h1, h2⟩ := minL_mem b r
    show min a (minL (b :: r)) ∈ a :: b :: r ∧ _
    refine ⟨?_, fun y h => ?_⟩
    · rcases Int.le_total a (minL (b :: r)) with q | q
      · rw [Int.min_eq_left q]; exact List.mem_cons_self
      · rw [Int.min_eq_right q]; exact List.mem_cons_of_mem _ h1
    · show min a (minL (b :: r)) ≤ y
      rcases List.mem_cons.mp h with rfl | h
      · exact Int.min_le_left _ _
      · exact Int.le_trans (Int.min_le_right _ _) (h2 y h)
theorem insI_perm (a : Int) : ∀ l : List Int, (insI a l).Perm (a :: l)
  | [] => .refl _
  | b :: r => by
    unfold insI
    split
    · exact .refl _
    · exact ((insI_perm a r).cons b).trans (.swap a b r)
theorem srtI_perm : ∀ l : List Int, (srtI l).Perm l
  | [] => .refl _
  | a :: r => (insI_perm a (srtI r)).trans ((srtI_perm r).cons a)
theorem insI_srt (a : Int) : ∀ l : List Int, l.Pairwise (· ≤ ·) → (insI a l).Pairwise (· ≤ ·)
  | [], _ => by unfold insI; exact List.pairwise_singleton _ _
  | b :: r, h => by
    rw [List.pairwise_cons] at h
    unfold insI
    split
    · rename_i q
      refine List.pairwise_cons.mpr ⟨fun c hc => ?_, List.pairwise_cons.mpr h⟩
      rcases List.mem_cons.mp hc with rfl | hc
      · exact q
      · exact Int.le_trans q (h.1 c hc)
    · rename_i q
      refine List.pairwise_cons.mpr ⟨fun c hc => ?_, insI_srt a r h.2⟩
      have hc' := (insI_perm a r).mem_iff.mp hc
      rcases List.mem_cons.mp hc' with rfl | hc'
      · omega
      · exact h.1 c hc'
theorem srtI_srt : ∀ l : List Int, (srtI l).Pairwise (· ≤ ·)
  | [] => List.Pairwise.nil
  | a :: r => insI_srt a _ (srtI_srt r)
theorem srt_uniq : ∀ {l m : List Int}, l.Perm m → l.Pairwise (· ≤ ·) → m.Pairwise (· ≤ ·) → l = m
  | [], m, p, _, _ => by rw [List.nil_perm.mp p]
  | a :: r, [], p, _, _ => by simpa using p.length_eq
  | a :: r, b :: q, p, h1, h2 => by
    rw [List.pairwise_cons] at h1 h2
    have e : a = b := by
      have m1 : a ∈ b :: q := p.mem_iff.mp List.mem_cons_self
      have m2 : b ∈ a :: r := p.mem_iff.mpr List.mem_cons_self
      rcases List.mem_cons.mp m1 with z | z
      · exact z
      · rcases List.mem_cons.mp m2 with y | y
        · exact y.symm
        · exact Int.le_antisymm (h1.1 b y) (h2.1 a z)
    subst e
    rw [srt_uniq (List.Perm.cons_inv p) h1.2 h2.2]
theorem toPyL_is (k : Nat) (ih : ∀ {v : V} {d : D} {p : PyData}, Is K F B v d → toPy o k d = some p → Dp K H v p ∧ p.canLay0 = true ∧ p.depth ≤ k) :
    ∀ {vs : List V} {ds : List D} {ps : List PyData}, IsL K F B vs ds → ds.mapM (toPy o k) = some ps → DpAll K H vs ps ∧ PyData.canLayAll0 ps = true ∧ PyData.depthAll ps ≤ k
  | _, [], ps, .nil, h => by
    rw [List.mapM_nil] at h
    cases h
    exact ⟨.nil, rfl, Nat.zero_le _⟩
  | _, d :: ds, ps, .cons h1 h2, h => by
    rw [List.mapM_cons] at h
    cases q1 : toPy o k d with
    | none => rw [q1] at h; cases h
    | some p =>
      rw [q1] at h
      cases q2 : ds.mapM (toPy o k) with
      | none => rw [q2] at h; cases h
      | some qs =>
        rw [q2] at h
        cases h
        obtain ⟨a1, a2, a3⟩ := ih h1 q1
        obtain ⟨b1, b2, b3⟩ := toPyL_is k ih h2 q2
        refine ⟨.cons a1 b1, ?_, ?_⟩
        · show (p.canLay0 && PyData.canLayAll0 qs) = true
          rw [a2, b2] <;> rfl
        · exact Nat.max_le.mpr ⟨a3, b3⟩
theorem toPy_is (s : Store K C F B H o) (e : Sub F H) : ∀ (k : Nat) {v : V} {d : D} {p : PyData}, Is K F B v d → toPy o k d = some p → Dp K H v p ∧ p.canLay0 = true ∧ p.depth ≤ k
  | 0, _, _, _, _, h => by cases h
  | k + 1, v, d, p, i, h => by
    cases i with
    | exn h1 => cases h
    | non => cases h; exact ⟨.non, rfl, Nat.zero_le _⟩
    | bl b => cases h; exact ⟨.bl b, rfl, Nat.zero_le _⟩
    | int b => cases h; exact ⟨.int b, rfl, Nat.zero_le _⟩
    | str x =>
      have h' : (if PyData.strOk x = true then some (PyData.str x) else none) = some p := h
      by_cases q : PyData.strOk x = true
      · rw [if_pos q] at h'; cases h'; exact ⟨.str x, q, Nat.zero_le _⟩
      · rw [if_neg q] at h'; cases h'
    | @lst a vs xs h1 h2 =>
      have h' : (xs.mapM (toPy o k)).map PyData.list = some p := h
      cases q : xs.mapM (toPy o k) with
      | none => rw [q] at h'; cases h'
      | some ps =>
        rw [q] at h'; cases h'
        obtain ⟨a1, a2, a3⟩ := toPyL_is (H := H) k (toPy_is s e k) h2 q
        exact ⟨.lst (SqL.of (e _ _ h1)) a1, a2, Nat.succ_le_succ a3⟩
    | @tup a vs xs h1 h2 =>
      have h' : (xs.mapM (toPy o k)).map PyData.tuple = some p := h
      cases q : xs.mapM (toPy o k) with
      | none => rw [q] at h'; cases h'
      | some ps =>
        rw [q] at h'; cases h'
        obtain ⟨a1, a2, a3⟩ := toPyL_is (H := H) k (toPy_is s e k) h2 q
        exact ⟨.tup (SqT.of (e _ _ h1)) a1, a2, Nat.succ_le_succ a3⟩
    | @obj a n h1 =>
      have h' : (match o[n]? with
        | some (.ml xs) => (xs.mapM (toPy o k)).map PyData.list
        | _ => none) = some p := h
      cases q0 : o[n]? with
      | none => rw [q0] at h'; cases h'
      | some mo =>
        rw [q0] at h'
        cases mo with
        | ml xs =>
          obtain ⟨_, vs, g1, g2⟩ := s.obj h1 q0
          have h2 : (xs.mapM (toPy o k)).map PyData.list = some p := h'
          cases q : xs.mapM (toPy o k) with
          | none => rw [q] at h2; cases h2
          | some ps =>
            rw [q] at h2; cases h2
            obtain ⟨a1, a2, a3⟩ := toPyL_is (H := H) k (toPy_is s e k) g2 q
            exact ⟨.lst (SqL.of g1) a1, a2, Nat.succ_le_succ a3⟩
        | _ => cases h'
    | scr _ => cases h
theorem shaped_of {p : PyData} {k : Nat} (hk : k ≤ 64) (h : p.canLay0 = true ∧ p.depth ≤ k) : SeqAt.shaped p = true := by
  unfold SeqAt.shaped
  rw [h.1, decide_eq_true (Nat.le_trans h.2 hk)]
  rfl
theorem isL_map_int : ∀ ns : List Int, IsL K F B (ns.map V.int) (ns.map D.int) := isL_ints
end
section
variable {X : Cx} {C : Addr}
theorem lv_not {o : Om} {d : D} {xs : List D} (h : lv o d = some xs) : (∀ i, d ≠ .int i) ∧ ∀ ys, d ≠ .tup ys := by
  constructor
  · rintro i rfl; cases h
  · rintro i rfl; cases h
theorem o_add : OpR X (binaryOp .Add) (r2 X.K C opAdd) := by
  intro pins s σ H x y v u Q I rx ry ⟨F, B, o, d, e, z, hs, st, i1, i2, hz, k⟩
  have lists : ∀ xs ys, lv o d = some xs → lv o e = some ys → (if xs.length + ys.length ≤ 100000 then some (D.lst (xs ++ ys)) else none) = some z → wpAny (model X.prog X.w) X.A (binaryOp .Add v u) (EP X pins σ Q) X.xe s := by
    intro xs ys q1 q2 hz
    by_cases hl : xs.length + ys.length ≤ 100000
    · rw [if_pos hl] at hz
      cases hz
      obtain ⟨a, vs, rfl, h1, h2⟩ := i1.lv st hs q1
      obtain ⟨b, us, rfl, h3, h4⟩ := i2.lv st hs q2
      refine op_cat pins s σ H _ _ v u Q I rx ry ⟨a, b, vs, us, rfl, rfl, h1, h3, sz (by rw [h2.length, h4.length]; exact hl), fun p hp => ?_⟩
      have g := Grow.new (o := .lst (vs ++ us)) hs hp
      exact k _ _ _ g (.lst upd_same ((h2.append h4).mono g.ff fun _ _ h => h))
    · rw [if_neg hl] at hz; cases hz
  cases i1 with
  | int i =>
    cases i2 with
    | int j =>
      cases hz
      exact op_add pins s σ H _ _ v u Q I rx ry ⟨i, j, rfl, rfl, k F H _ (Grow.refl hs) (.int _)⟩
    | _ => simp [opAdd, lv] at hz
  | @tup a vs xs h1 h2 =>
    cases i2 with
    | @tup b us ys h3 h4 =>
      have hz' : (if xs.isEmpty = false ∧ xs.length + ys.length ≤ 100000 then some (D.tup (xs ++ ys)) else none) = some z := hz
      by_cases hl : xs.isEmpty = false ∧ xs.length + ys.length ≤ 100000
      · rw [if_pos hl] at hz'
        cases hz'
        have ne : vs ≠ [] := by
          rintro rfl
          cases h2
          exact absurd hl.1 (by decide)
        refine op_catT pins s σ H _ _ v u Q I rx ry ⟨a, b, vs, us, rfl, rfl, SqT.of (hs _ _ h1), SqT.of (hs _ _ h3), ne, sz (by rw [h2.length, h4.length]; exact hl.2), fun hn => ?_, fun _ p hp => ?_⟩
        · subst hn
          cases h4
          refine k F H _ (Grow.refl hs) ?_
          rw [List.append_nil]
          exact .tup h1 h2
        · have g := Grow.new (o := .tup (vs ++ us)) hs hp
          exact k _ _ _ g (.tup upd_same ((h2.append h4).mono g.ff fun _ _ h => h))
      · rw [if_neg hl] at hz'; cases hz'
    | _ => simp [opAdd, lv] at hz
  | @lst a vs xs h1 h2 =>
    cases q : lv o e with
    | none => cases i2 <;> simp [opAdd, q] at hz
    | some ys =>
      refine lists xs ys rfl q ?_
      obtain ⟨n1, n2⟩ := lv_not q
      cases i2 <;> first | exact hz | (simp [opAdd, q] at hz; simpa [lv] using hz) | (simp [lv] at q)
  | @obj a n h1 =>
    cases q0 : lv o (.obj n) with
    | none => cases i2 <;> simp [opAdd, q0] at hz
    | some xs =>
      cases q : lv o e with
      | none => cases i2 <;> simp [opAdd, q0, q] at hz
      | some ys =>
        refine lists xs ys q0 q ?_
        cases i2 <;> simpa [opAdd, q0, q] using hz
  | _ => cases i2 <;> simp [opAdd, lv] at hz
theorem o_sub : OpR X (binaryOp .Sub) (r2 X.K C opSub) := by
  intro pins s σ H x y v u Q I rx ry ⟨F, B, o, d, e, z, hs, st, i1, i2, hz, k⟩
  cases i1 with
  | int i =>
    cases i2 with
    | int j => cases hz; exact op_sub pins s σ H _ _ v u Q I rx ry ⟨i, j, rfl, rfl, k F H _ (Grow.refl hs) (.int _)⟩
    | _ => cases hz
  | _ => cases i2 <;> cases hz
theorem o_mod : OpR X (binaryOp .Mod) (r2 X.K C opMod) := by
  intro pins s σ H x y v u Q I rx ry ⟨F, B, o, d, e, z, hs, st, i1, i2, hz, k⟩
  cases i1 with
  | int i =>
    cases i2 with
    | int j =>
      have hz' : (if 0 < j then some (D.int (i % j)) else none) = some z := hz
      by_cases hj : 0 < j
      · rw [if_pos hj] at hz'; cases hz'
        exact op_mod pins s σ H _ _ v u Q I rx ry ⟨i, j, rfl, rfl, hj, k F H _ (Grow.refl hs) (.int _)⟩
      · rw [if_neg hj] at hz'; cases hz'
    | _ => cases hz
  | _ => cases i2 <;> cases hz
theorem o_div : OpR X (binaryOp .FloorDiv) (r2 X.K C opDiv) := by
  intro pins s σ H x y v u Q I rx ry ⟨F, B, o, d, e, z, hs, st, i1, i2, hz, k⟩
  cases i1 with
  | int i =>
    cases i2 with
    | int j =>
      have hz' : (if 0 < j ∧ j < 1073741824 then some (D.int (i / j)) else none) = some z := hz
      by_cases hj : 0 < j ∧ j < 1073741824
      · rw [if_pos hj] at hz'; cases hz'
        exact op_fdiv pins s σ H _ _ v u Q I rx ry ⟨i, j, rfl, rfl, hj, k F H _ (Grow.refl hs) (.int _)⟩
      · rw [if_neg hj] at hz'; cases hz'
    | _ => cases hz
  | _ => cases i2 <;> cases hz
theorem o_pow : OpR X (binaryOp .Pow) (r2 X.K C opPow) := by
  intro pins s σ H x y v u Q I rx ry ⟨F, B, o, d, e, z, hs, st, i1, i2, hz, k⟩
  cases i1 with
  | int i =>
    cases i2 with
    | int j =>
      have hz' : (if 0 ≤ j ∧ j ≤ 100 ∧ 0 ≤ i ∧ i ≤ 100 then some (D.int (i ^ j.toNat)) else none) = some z := hz
      by_cases hj : 0 ≤ j ∧ j ≤ 100 ∧ 0 ≤ i ∧ i ≤ 100
      · rw [if_pos hj] at hz'; cases hz'
        exact op_pow pins s σ H _ _ v u Q I rx ry ⟨i, j, rfl, rfl, ⟨hj.1, by omega, by omega⟩, k F H _ (Grow.refl hs) (.int _)⟩
      · rw [if_neg hj] at hz'; cases hz'
    | _ => cases hz
  | _ => cases i2 <;> cases hz
theorem o_mul : OpR X (binaryOp .Mult) (r2 X.K C opMul) := by
  intro pins s σ H x y v u Q I rx ry ⟨F, B, o, d, e, z, hs, st, i1, i2, hz, k⟩
  cases i2 with
  | int j =>
    have rep : ∀ xs, lv o d = some xs → (if -1000 ≤ j ∧ j ≤ 1000 ∧ xs.length ≤ 1000 then some (D.lst (List.replicate j.toNat xs).flatten) else none) = some z → wpAny (model X.prog X.w) X.A (binaryOp .Mult v u) (EP X pins σ Q) X.xe s := by
      intro xs q hz
      by_cases hl : -1000 ≤ j ∧ j ≤ 1000 ∧ xs.length ≤ 1000
      · rw [if_pos hl] at hz
        cases hz
        obtain ⟨a, vs, rfl, h1, h2⟩ := i1.lv st hs q
        have hb : vs.length * j.toNat ≤ 1000 * 1000 := Nat.mul_le_mul (by rw [h2.length]; exact hl.2.2) (by omega)
        refine op_rep pins s σ H _ _ v u Q I rx ry ⟨a, j, vs, rfl, rfl, h1, by omega, by omega, Nat.le_trans hb (by decide), fun p hp => ?_⟩
        have g := Grow.new (o := .lst (List.replicate j.toNat vs).flatten) hs hp
        have rl : ∀ n : Nat, IsL X.K F B (List.replicate n vs).flatten (List.replicate n xs).flatten := by
          intro n
          induction n with
          | zero => exact .nil
          | succ n ih => rw [List.replicate_succ, List.replicate_succ, List.flatten_cons, List.flatten_cons]; exact h2.append ih
        exact k _ _ _ g (.lst upd_same ((rl _).mono g.ff fun _ _ h => h))
      · rw [if_neg hl] at hz; cases hz
    cases i1 with
    | int i =>
      have hz' : (if (-(2 ^ 64) < i ∧ i < 2 ^ 64) ∨ (-(2 ^ 64) < j ∧ j < 2 ^ 64) then some (D.int (i * j)) else none) = some z := hz
      by_cases hj : (-(2 ^ 64) < i ∧ i < 2 ^ 64) ∨ (-(2 ^ 64) < j ∧ j < 2 ^ 64)
      · rw [if_pos hj] at hz'; cases hz'
        exact op_mul pins s σ H _ _ v u Q I rx ry ⟨i, j, rfl, rfl, hj, k F H _ (Grow.refl hs) (.int _)⟩
      · rw [if_neg hj] at hz'; cases hz'
    | @lst a vs xs h1 h2 => exact rep xs rfl hz
    | @obj a n h1 =>
      cases q : lv o (.obj n) with
      | none => simp [opMul, q] at hz
      | some xs => exact rep xs q (by simpa [opMul, q] using hz)
    | _ => simp [opMul, lv] at hz
  | _ => cases i1 <;> cases hz
theorem u_neg : UnR X (unaryOp .USub) (r1 X.K C opNeg) := by
  intro pins s σ H x v Q I rx ⟨F, B, o, d, z, hs, st, i1, hz, k⟩
  cases i1 with
  | int i => cases hz; exact un_neg pins s σ H _ v Q I rx ⟨i, rfl, k F H _ (Grow.refl hs) (.int _)⟩
  | _ => cases hz
theorem o_int {op : CmpOp} {p : Int → Int → Bool} (rule : OpR X (compareOp op) (rI0 fun i j => .bl (p i j))) : OpR X (compareOp op) (r2 X.K C (opI p)) := by
  intro pins s σ H x y v u Q I rx ry ⟨F, B, o, d, e, z, hs, st, i1, i2, hz, k⟩
  cases i1 with
  | int i =>
    cases i2 with
    | int j => cases hz; exact rule pins s σ H _ _ v u Q I rx ry ⟨i, j, rfl, rfl, k F H _ (Grow.refl hs) (.bl _)⟩
    | _ => cases hz
  | _ => cases i2 <;> cases hz
theorem o_lt : OpR X (compareOp .Lt) (r2 X.K C opLt) := o_int op_lt
theorem o_le : OpR X (compareOp .LtE) (r2 X.K C opLe) := o_int op_le
theorem o_gt : OpR X (compareOp .Gt) (r2 X.K C opGt) := o_int op_gt
theorem o_ge : OpR X (compareOp .GtE) (r2 X.K C opGe) := o_int op_ge
theorem isN_is {K : PySem.W.Frag} {F : Hp} {B : List Addr} {v : V} {d : D} (h : Is K F B v d) : decide (v = .non) = isN d := by cases h <;> rfl
theorem o_is : OpR X (compareOp .Is) (r2 X.K C opIs) := by
  intro pins s σ H x y v u Q I rx ry ⟨F, B, o, d, e, z, hs, st, i1, i2, hz, k⟩
  cases i2 with
  | non => cases hz; exact op_isN pins s σ H _ _ v u Q I rx ry ⟨rfl, k F H _ (Grow.refl hs) (by rw [isN_is i1]; exact .bl _)⟩
  | _ => cases hz
theorem o_isNot : OpR X (compareOp .IsNot) (r2 X.K C opIsNot) := by
  intro pins s σ H x y v u Q I rx ry ⟨F, B, o, d, e, z, hs, st, i1, i2, hz, k⟩
  cases i2 with
  | non => cases hz; exact op_notN pins s σ H _ _ v u Q I rx ry ⟨rfl, k F H _ (Grow.refl hs) (by rw [isN_is i1]; exact .bl _)⟩
  | _ => cases hz
theorem o_in : OpR X (compareOp .In) (r2 X.K C opIn) := by
  intro pins s σ H x y v u Q I rx ry ⟨F, B, o, d, e, z, hs, st, i1, i2, hz, k⟩
  unfold opIn at hz
  cases q : qv o e with
  | none => rw [q] at hz; cases hz
  | some xs =>
    rw [q] at hz
    simp only at hz
    by_cases hf : flatD d = true ∧ xs.all flatD = true
    · rw [if_pos hf] at hz; cases hz
      obtain ⟨a, vs, rfl, h1, h2⟩ := i2.qv st hs q
      exact op_in_seq pins s σ H _ _ v u Q I rx ry ⟨a, vs, rfl, h1, flat_is i1 hf.1, flat_all h2 hf.2, k F H _ (Grow.refl hs) (by rw [inD_is i1 hf.1 h2 hf.2]; exact .bl _)⟩
    · rw [if_neg hf] at hz; cases hz
theorem o_notIn : OpR X (compareOp .NotIn) (r2 X.K C opNotIn) := by
  intro pins s σ H x y v u Q I rx ry ⟨F, B, o, d, e, z, hs, st, i1, i2, hz, k⟩
  unfold opNotIn at hz
  cases q : qv o e with
  | none => rw [q] at hz; cases hz
  | some xs =>
    rw [q] at hz
    simp only at hz
    by_cases hf : flatD d = true ∧ xs.all flatD = true
    · rw [if_pos hf] at hz; cases hz
      obtain ⟨a, vs, rfl, h1, h2⟩ := i2.qv st hs q
      exact op_notIn_seq pins s σ H _ _ v u Q I rx ry ⟨a, vs, rfl, h1, flat_is i1 hf.1, flat_all h2 hf.2, k F H _ (Grow.refl hs) (by rw [inD_is i1 hf.1 h2 hf.2]; exact .bl _)⟩
    · rw [if_neg hf] at hz; cases hz
theorem o_eq (hu : X.A.units + 64 < cLine) : OpR X (compareOp .Eq) (r2 X.K C opEq) := by
  intro pins s σ H x y v u Q I rx ry ⟨F, B, o, d, e, z, hs, st, i1, i2, hz, k⟩
  unfold opEq at hz
  cases q : toPy o 9 d with
  | none => rw [q] at hz; cases hz
  | some p =>
    cases q' : toPy o 9 e with
    | none => rw [q, q'] at hz; cases hz
    | some p' =>
      rw [q, q'] at hz; cases hz
      obtain ⟨a1, a2⟩ := toPy_is st hs 9 i1 q
      obtain ⟨b1, b2⟩ := toPy_is st hs 9 i2 q'
      exact op_eqD hu pins s σ H _ _ v u Q I rx ry ⟨p, p', a1, b1, shaped_of (by decide) a2, shaped_of (by decide) b2, k F H _ (Grow.refl hs) (.bl _)⟩
theorem o_ne (hu : X.A.units + 64 < cLine) : OpR X (compareOp .NotEq) (r2 X.K C opNe) := by
  intro pins s σ H x y v u Q I rx ry ⟨F, B, o, d, e, z, hs, st, i1, i2, hz, k⟩
  unfold opNe at hz
  cases q : toPy o 9 d with
  | none => rw [q] at hz; cases hz
  | some p =>
    cases q' : toPy o 9 e with
    | none => rw [q, q'] at hz; cases hz
    | some p' =>
      rw [q, q'] at hz; cases hz
      obtain ⟨a1, a2⟩ := toPy_is st hs 9 i1 q
      obtain ⟨b1, b2⟩ := toPy_is st hs 9 i2 q'
      exact op_neD hu pins s σ H _ _ v u Q I rx ry ⟨p, p', a1, b1, shaped_of (by decide) a2, shaped_of (by decide) b2, k F H _ (Grow.refl hs) (.bl _)⟩
theorem ix_d : IxR X (r2 X.K C opIx) := by
  intro value slice pins s σ H x y v u Q I rx ry ⟨F, B, o, d, e, z, hs, st, i1, i2, hz, k⟩
  cases i2 with
  | int i =>
    have hz' : ((qv o d).bind fun xs => L2.atI xs i) = some z := hz
    cases q : qv o d with
    | none => rw [q] at hz'; cases hz'
    | some xs =>
      rw [q] at hz'
      obtain ⟨a, vs, rfl, h1, h2⟩ := i1.qv st hs q
      obtain ⟨w, g1, g2⟩ := h2.atI hz'
      refine ix_seq value slice pins s σ H _ _ v u Q I rx ry ?_
      rcases h1 with h1 | h1
      · exact .inl ⟨a, vs, i, w, rfl, rfl, h1, g1, k F H _ (Grow.refl hs) g2⟩
      · exact .inr (.inl ⟨a, vs, i, w, rfl, rfl, h1, g1, k F H _ (Grow.refl hs) g2⟩)
  | _ => cases hz
theorem IsL.cut {K : PySem.W.Frag} {F : Hp} {B : List Addr} {vs : List V} {ds : List D} (h : IsL K F B vs ds) (lo hi : Option Int) : IsL K F B (cutV vs lo hi) (cutD ds lo hi) := by
  unfold cutV cutD
  rw [h.length]
  exact (h.drop _).take _
theorem sl_d : SlR X (rSl X.K C opSl) := by
  intro pins s σ H x v vl vu lo hi sl Q I rx hsl p1 p2 ⟨F, B, o, d, z, hs, st, i1, hz, k⟩
  have lists : ∀ xs, lv o d = some xs → some (D.lst (cutD xs lo hi)) = some z → rSlL X.K x lo hi H Q := by
    intro xs q hz
    cases hz
    obtain ⟨a, vs, rfl, h1, h2⟩ := i1.lv st hs q
    refine ⟨a, vs, rfl, SqL.of h1, fun p hp => ?_⟩
    have g := Grow.new (o := .lst (cutV vs lo hi)) hs hp
    exact k _ _ _ g (.lst upd_same ((h2.cut lo hi).mono g.ff fun _ _ h => h))
  have go : rSlL X.K x lo hi H Q ∨ rSlT X.K x lo hi H Q := by
    cases i1 with
    | @lst a vs xs h1 h2 => exact .inl (lists xs rfl hz)
    | @obj a n h1 =>
      cases q : lv o (.obj n) with
      | none => simp [opSl, q] at hz
      | some xs => exact .inl (lists xs q (by simpa [opSl, q] using hz))
    | @tup a vs xs h1 h2 =>
      right
      have hz' : (if HT.sIx xs.length 0 lo = 0 ∧ HT.sIx xs.length xs.length hi = xs.length then none else some (D.tup (cutD xs lo hi))) = some z := hz
      by_cases hl : HT.sIx xs.length 0 lo = 0 ∧ HT.sIx xs.length xs.length hi = xs.length
      · rw [if_pos hl] at hz'; cases hz'
      · rw [if_neg hl] at hz'; cases hz'
        refine ⟨a, vs, rfl, SqT.of (hs _ _ h1), by rw [h2.length]; exact hl, fun p hp => ?_⟩
        have g := Grow.new (o := .tup (cutV vs lo hi)) hs hp
        exact k _ _ _ g (.tup upd_same ((h2.cut lo hi).mono g.ff fun _ _ h => h))
    | _ => simp [opSl, lv] at hz
  exact (sl_list.or sl_tup) pins s σ H x v vl vu lo hi sl Q I rx hsl p1 p2 go
end
end KR
set_option Elab.async false
set_option linter.all false
set_option maxRecDepth 100000
set_option maxHeartbeats 2000000
namespace KR
open PySem L2
section
variable {X : Cx} {C : Addr}
theorem one_of {K : PySem.W.Frag} {F : Hp} {B : List Addr} {vs : List V} {x : D} (h : IsL K F B vs [x]) : ∃ v, vs = [v] ∧ Is K F B v x := by
  cases h with
  | cons h1 h2 => cases h2; exact ⟨_, rfl, h1⟩
theorem two_of {K : PySem.W.Frag} {F : Hp} {B : List Addr} {vs : List V} {x y : D} (h : IsL K F B vs [x, y]) : ∃ v u, vs = [v, u] ∧ Is K F B v x ∧ Is K F B u y := by
  cases h with
  | cons h1 h2 => cases h2 with
    | cons h2 h3 => cases h3; exact ⟨_, _, rfl, h1, h2⟩
theorem c_len : CallR X (.builtin "len") (rN X.K C opLen) := by
  intro pins s σ H vs us Q I rv ⟨F, B, o, ds, z, hs, st, i1, hz, k⟩
  match ds, hz with
  | [d], hz =>
    obtain ⟨v, rfl, i⟩ := one_of i1
    have hz' : ((qv o d).map fun ys => D.int ys.length) = some z := hz
    cases q : qv o d with
    | none => rw [q] at hz'; cases hz'
    | some ys =>
      rw [q] at hz'; cases hz'
      obtain ⟨a, vs, rfl, h1, h2⟩ := i.qv st hs q
      exact call_len_seq pins s σ H _ us Q I rv ⟨a, vs, rfl, h1, k F H _ (Grow.refl hs) (by rw [h2.length]; exact .int _)⟩
theorem c_list : CallR X (.type "list") (rN X.K C opList) := by
  intro pins s σ H vs us Q I rv ⟨F, B, o, ds, z, hs, st, i1, hz, k⟩
  match ds, hz with
  | [d], hz =>
    obtain ⟨v, rfl, i⟩ := one_of i1
    have hz' : (qv o d).map D.lst = some z := hz
    cases q : qv o d with
    | none => rw [q] at hz'; cases hz'
    | some ys =>
      rw [q] at hz'; cases hz'
      obtain ⟨a, vs, rfl, h1, h2⟩ := i.qv st hs q
      refine call_list_of pins s σ H _ us Q I rv ⟨a, vs, rfl, h1, fun p hp => ?_⟩
      have g := Grow.new (o := .lst vs) hs hp
      exact k _ _ _ g (.lst upd_same (h2.mono g.ff fun _ _ h => h))
theorem c_tuple : CallR X (.type "tuple") (rN X.K C opTuple) := by
  intro pins s σ H vs us Q I rv ⟨F, B, o, ds, z, hs, st, i1, hz, k⟩
  match ds, hz with
  | [d], hz =>
    obtain ⟨v, rfl, i⟩ := one_of i1
    have lists : ∀ ys, lv o d = some ys → some (D.tup ys) = some z → wpAny (model X.prog X.w) X.A (call (.type "tuple") us) (EP X pins σ Q) X.xe s := by
      intro ys q hz
      cases hz
      obtain ⟨a, vs, rfl, h1, h2⟩ := i.lv st hs q
      refine call_tuple_of pins s σ H _ us Q I rv ⟨a, vs, rfl, .inl ⟨SqL.of h1, fun p hp => ?_⟩⟩
      have g := Grow.new (o := .tup vs) hs hp
      exact k _ _ _ g (.tup upd_same (h2.mono g.ff fun _ _ h => h))
    cases i with
    | @tup a vs xs h1 h2 =>
      cases hz
      exact call_tuple_of pins s σ H _ us Q I rv ⟨a, vs, rfl, .inr ⟨SqT.of (hs _ _ h1), k F H _ (Grow.refl hs) (.tup h1 h2)⟩⟩
    | @lst a vs xs h1 h2 => exact lists xs rfl hz
    | @obj a n h1 =>
      cases q : lv o (.obj n) with
      | none => simp [opTuple, q] at hz
      | some xs => exact lists xs q (by simpa [opTuple, q] using hz)
    | _ => simp [opTuple, lv] at hz
  | d :: e :: r, hz => cases d <;> cases hz
theorem c_int : CallR X (.type "int") (rN X.K C opInt) := by
  intro pins s σ H vs us Q I rv ⟨F, B, o, ds, z, hs, st, i1, hz, k⟩
  match ds, hz with
  | [d], hz =>
    obtain ⟨v, rfl, i⟩ := one_of i1
    cases i with
    | int j => cases hz; exact call_int1 pins s σ H _ us Q I rv (.inl ⟨j, rfl, k F H _ (Grow.refl hs) (.int _)⟩)
    | bl b => cases hz; exact call_int1 pins s σ H _ us Q I rv (.inr ⟨b, rfl, k F H _ (Grow.refl hs) (.int _)⟩)
    | _ => cases hz
  | d :: e :: r, hz => cases d <;> cases hz
theorem c_sorted : CallR X (.builtin "sorted") (rN X.K C opSorted) := by
  intro pins s σ H vs us Q I rv ⟨F, B, o, ds, z, hs, st, i1, hz, k⟩
  match ds, hz with
  | [d], hz =>
    obtain ⟨v, rfl, i⟩ := one_of i1
    have hz' : (((lv o d).bind allI).map fun ns => D.lst ((srtI ns).map .int)) = some z := hz
    cases q : lv o d with
    | none => rw [q] at hz'; cases hz'
    | some ys =>
      rw [q] at hz'
      cases q2 : allI ys with
      | none => simp [q2] at hz'
      | some ns =>
        simp [q2] at hz'
        subst hz'
        obtain ⟨a, vs, rfl, h1, h2⟩ := i.lv st hs q
        rw [allI_is q2] at h2
        have e := h2.ints
        subst e
        refine cr_sortedI pins s σ H _ us Q I rv ⟨a, ns, rfl, SqL.of h1, fun ns' p pm sr hp => ?_⟩
        have e : ns' = srtI ns := srt_uniq (pm.trans (srtI_perm ns).symm) sr (srtI_srt ns)
        subst e
        have g := Grow.new (o := .lst ((srtI ns).map V.int)) hs hp
        exact k _ _ _ g (.lst upd_same (isL_ints _))
theorem max_eq {ns : List Int} {m : Int} {a : Int} {r : List Int} (e : ns = a :: r) (h1 : m ∈ ns) (h2 : ∀ y, y ∈ ns → y ≤ m) : m = maxL (a :: r) := by
  subst e
  obtain ⟨g1, g2⟩ := maxL_mem a r
  exact Int.le_antisymm (g2 _ h1) (h2 _ g1)
theorem min_eq {ns : List Int} {m : Int} {a : Int} {r : List Int} (e : ns = a :: r) (h1 : m ∈ ns) (h2 : ∀ y, y ∈ ns → m ≤ y) : m = minL (a :: r) := by
  subst e
  obtain ⟨g1, g2⟩ := minL_mem a r
  exact Int.le_antisymm (h2 _ g1) (g2 _ h1)
theorem c_max (hc : X.calm = true) : CallR X (.builtin "max") (rN X.K C opMax) := by
  intro pins s σ H vs us Q I rv ⟨F, B, o, ds, z, hs, st, i1, hz, k⟩
  match ds, hz with
  | [d], hz =>
    obtain ⟨v, rfl, i⟩ := one_of i1
    have hz' : (match (lv o d).bind allI with
      | some (a :: r) => some (D.int (maxL (a :: r)))
      | _ => none) = some z := by cases d <;> exact hz
    cases q : lv o d with
    | none => rw [q] at hz'; cases hz'
    | some ys =>
      rw [q] at hz'
      cases q2 : allI ys with
      | none => simp [q2] at hz'
      | some ns =>
        simp only [q2, Option.bind_some] at hz'
        cases ns with
        | nil => cases hz'
        | cons a r =>
          cases hz'
          obtain ⟨b, vs, rfl, h1, h2⟩ := i.lv st hs q
          rw [allI_is q2] at h2
          have e := h2.ints
          subst e
          refine cr_max hc pins s σ H _ us Q I rv ⟨b, a :: r, rfl, SqL.of h1, Nat.succ_pos _, fun m g1 g2 => ?_⟩
          rw [max_eq rfl g1 g2]
          exact k F H _ (Grow.refl hs) (.int _)
  | [d, e], hz =>
    obtain ⟨v, u, rfl, i, j⟩ := two_of i1
    cases i with
    | int a =>
      cases j with
      | int b =>
        cases hz
        refine call_max2 hc pins s σ H _ us Q I rv ⟨a, b, rfl, ?_⟩
        have e : (if b > a then b else a) = max a b := by omega
        rw [e]
        exact k F H _ (Grow.refl hs) (.int _)
      | _ => cases hz
    | _ => cases j <;> cases hz
  | d :: e :: r :: r', hz => cases d <;> cases e <;> cases hz
theorem c_min (hc : X.calm = true) : CallR X (.builtin "min") (rN X.K C opMin) := by
  intro pins s σ H vs us Q I rv ⟨F, B, o, ds, z, hs, st, i1, hz, k⟩
  match ds, hz with
  | [d], hz =>
    obtain ⟨v, rfl, i⟩ := one_of i1
    have hz' : (match (lv o d).bind allI with
      | some (a :: r) => some (D.int (minL (a :: r)))
      | _ => none) = some z := by cases d <;> exact hz
    cases q : lv o d with
    | none => rw [q] at hz'; cases hz'
    | some ys =>
      rw [q] at hz'
      cases q2 : allI ys with
      | none => simp [q2] at hz'
      | some ns =>
        simp only [q2, Option.bind_some] at hz'
        cases ns with
        | nil => cases hz'
        | cons a r =>
          cases hz'
          obtain ⟨b, vs, rfl, h1, h2⟩ := i.lv st hs q
          rw [allI_is q2] at h2
          have e := h2.ints
          subst e
          refine cr_min hc pins s σ H _ us Q I rv ⟨b, a :: r, rfl, SqL.of h1, Nat.succ_pos _, fun m g1 g2 => ?_⟩
          rw [min_eq rfl g1 g2]
          exact k F H _ (Grow.refl hs) (.int _)
  | [d, e], hz =>
    obtain ⟨v, u, rfl, i, j⟩ := two_of i1
    cases i with
    | int a =>
      cases j with
      | int b =>
        cases hz
        refine call_min2 hc pins s σ H _ us Q I rv ⟨a, b, rfl, ?_⟩
        have e : (if b < a then b else a) = min a b := by omega
        rw [e]
        exact k F H _ (Grow.refl hs) (.int _)
      | _ => cases hz
    | _ => cases j <;> cases hz
  | d :: e :: r :: r', hz => cases d <;> cases e <;> cases hz
variable {E : XK} {a b c : Expr} {f g h : DE} {pos : Pos}
/-- xs[::-1] -/
theorem eRev {k : Nat} {p1 p2 p3 : Pos} (ha : EX X C E a f) : EX X C E (.Subscript a (.Slice none none (some (.UnaryOp .USub (.Constant (.int 1) k p1) p2)) p3) pos) (d1 opRev f) :=
  PE.imp (pe_revL ha) fun σ H Q ⟨F, B, ρ, o, e, s, n, c⟩ => ⟨F, B, ρ, o, e, s, n, Con.then c fun x o1 F1 H1 B1 v st1 s1 i1 c1 => by
    obtain ⟨z, hz, k⟩ := con_of c1 s1
    have hz' : ((lv o1 x).map fun xs => D.lst xs.reverse) = some z := hz
    cases q : lv o1 x with
    | none => rw [q] at hz'; cases hz'
    | some xs =>
      rw [q] at hz'; cases hz'
      obtain ⟨a, vs, rfl, h1, h2⟩ := i1.lv s1 st1.fh q
      refine ⟨a, vs, rfl, SqL.of h1, fun p hp => ?_⟩
      have g := Grow.new (o := .lst vs.reverse) st1.fh hp
      exact k _ _ _ g (.lst upd_same (h2.rev.mono g.ff fun _ _ h => h))⟩
end
end KR
set_option Elab.async false
set_option linter.all false
set_option maxRecDepth 100000
set_option maxHeartbeats 2000000
namespace KR
open PySem L2
abbrev Phi := List D → Om → Res D
/-- a def's promise: what it is told does as phi -/
def spF (K : PySem.W.Frag) (C : Addr) (n : Nat) (φ : Phi) : Sp := fun vs H Q E => vs.length = n ∧ ∃ F B o ds, Sub F H ∧ Store K C F B H o ∧ IsL K F B vs ds ∧ Con K C (Is K) E F H B Q (φ ds o)
/-- a def of the module keeps it -/
def Fn (P : Program) (w : World) (K : PySem.W.Frag) (mg : Str → Option Value) (base : Heap) (C : Addr) (k : Nat) (x : Str) (n : Nat) (φ : Phi) : Prop :=
  ∃ f fd ps, ps.length = n ∧ mg x = some (.ref f) ∧ PySem.W.keepIn K (.ref f) = true ∧ Binds K fd ps [] ∧ FnOk P w K mg base (L2.CX P w) k f fd ps (spF K C n φ)
/-- a method keeps it (self among its n arguments) -/
def Mt (P : Program) (w : World) (K : PySem.W.Frag) (mg : Str → Option Value) (base : Heap) (C : Addr) (k : Nat) (m : Str) (n : Nat) (φ : Phi) : Prop :=
  ∃ f fd ps, ps.length = n ∧ Meth K C m f ∧ Binds K fd ps [] ∧ FnOk P w K mg base (L2.CX P w) k f fd ps (spF K C n φ)
/-- the class makes by an __init__ that keeps it -/
def Ini (P : Program) (w : World) (K : PySem.W.Frag) (mg : Str → Option Value) (base : Heap) (C : Addr) (k : Nat) (x : Str) (n : Nat) (φ : Phi) : Prop :=
  ∃ f fd ps, ps.length = n ∧ mg x = some (.ref C) ∧ Mk K C f ∧ Binds K fd ps [] ∧ FnOk P w K mg base (L2.CX P w) k f fd ps (spF K C n φ)
theorem Fn.mono {P : Program} {w : World} {K : PySem.W.Frag} {mg : Str → Option Value} {base : Heap} {C : Addr} {j k : Nat} {x : Str} {n : Nat} {φ : Phi} (h : Fn P w K mg base C j x n φ) (l : j ≤ k) : Fn P w K mg base C k x n φ := by
  obtain ⟨f, fd, ps, h1, h2, h3, h4, h5⟩ := h
  exact ⟨f, fd, ps, h1, h2, h3, h4, h5.mono l⟩
theorem Mt.mono {P : Program} {w : World} {K : PySem.W.Frag} {mg : Str → Option Value} {base : Heap} {C : Addr} {j k : Nat} {x : Str} {n : Nat} {φ : Phi} (h : Mt P w K mg base C j x n φ) (l : j ≤ k) : Mt P w K mg base C k x n φ := by
  obtain ⟨f, fd, ps, h1, h2, h4, h5⟩ := h
  exact ⟨f, fd, ps, h1, h2, h4, h5.mono l⟩
def dCall (n : Nat) (φ : Phi) (f : DA) : DE := fun ρ o => (f ρ o).bind fun xs o1 => if xs.length = n then φ xs o1 else .bad
/-- the fields behind a handle -/
def fv (o : Om) : D → Option (Nat × List (Str × D))
  | .obj n => match o[n]? with
    | some (.ins fs) => some (n, fs)
    | _ => none
  | _ => none
def dMeth (m : Str) (n : Nat) (φ : Phi) (g : DE) (f : DA) : DE := fun ρ o => (g ρ o).bind fun x o1 => match fv o1 x with
  | some (_, fs) => if fs.lookup m = none then (f ρ o1).bind fun xs o2 => if xs.length + 1 = n then φ (x :: xs) o2 else .bad else .bad
  | none => .bad
instance : DecidableEq Str := inferInstance
def dFld (m : Str) (g : DE) : DE := fun ρ o => (g ρ o).bind fun x o1 => match fv o1 x with
  | some (_, fs) => .of o1 (fs.lookup m)
  | none => .bad
def dMake (n : Nat) (φ : Phi) (f : DA) : DE := fun ρ o => (f ρ o).bind fun xs o1 => if xs.length + 1 = n then (φ (.obj o1.length :: xs) (o1 ++ [.ins []])).bind fun z o2 => match z with
  | .non => .ok (.obj o1.length) o2
  | _ => .bad
  else .bad
theorem lookup_rel {K : PySem.W.Frag} {F : Hp} {B : List Addr} : ∀ {fvs : List (Str × V)} {fs : List (Str × D)} {m : Str}, fvs.map (·.1) = fs.map (·.1) → IsL K F B (fvs.map (·.2)) (fs.map (·.2)) →
    (fs.lookup m = none → fvs.lookup m = none) ∧ ∀ d, fs.lookup m = some d → ∃ v, fvs.lookup m = some v ∧ Is K F B v d
  | [], [], m, _, _ => ⟨fun _ => rfl, fun d h => by cases h⟩
  | [], _ :: _, m, h, _ => by cases h
  | _ :: _, [], m, h, _ => by cases h
  | (a, v) :: fvs, (b, d) :: fs, m, h, i => by
    simp only [List.map_cons, List.cons.injEq] at h
    obtain ⟨rfl, h⟩ := h
    simp only [List.map_cons] at i
    cases i with
    | cons i1 i2 =>
      obtain ⟨g1, g2⟩ := lookup_rel (m := m) h i2
      rw [List.lookup_cons, List.lookup_cons]
      cases q : m == a with
      | true => exact ⟨fun z => (nomatch z), fun e he => by cases he; exact ⟨v, rfl, i1⟩⟩
      | false => exact ⟨g1, g2⟩
section
variable {X : Cx} {C : Addr} {E : XK} {a b c : Expr} {f g h : DE} {fa : DA} {pos : Pos} {k n : Nat} {φ : Phi}
theorem Is.fv {K : PySem.W.Frag} {F H : Hp} {B : List Addr} {o : Om} (s : Store K C F B H o) {v : V} {d : D} {m : Nat} {fs : List (Str × D)} (h : Is K F B v d) (q : fv o d = some (m, fs)) :
    ∃ a dx fvs, d = .obj m ∧ B[m]? = some a ∧ o[m]? = some (.ins fs) ∧ v = .ref a ∧ H a = some (.ins C dx fvs) ∧ fvs.map (·.1) = fs.map (·.1) ∧ IsL K F B (fvs.map (·.2)) (fs.map (·.2)) := by
  cases h with
  | @obj a n h1 =>
    cases hy : o[n]? with
    | none => simp [KR.fv, hy] at q
    | some mo =>
      cases mo with
      | ins ys =>
        simp [KR.fv, hy] at q
        obtain ⟨rfl, rfl⟩ := q
        obtain ⟨_, dx, fvs, h2, h3, h4⟩ := s.obj h1 hy
        exact ⟨a, dx, fvs, rfl, h1, hy, rfl, h2, h3, h4⟩
      | _ => simp [KR.fv, hy] at q
  | _ => cases q
theorem eCall {x : Str} {p : Pos} {es : List Expr} (T : Fn X.prog X.w X.K X.mg X.base C k x n φ) (hr : Room k X.A) (hx : Passes (L2.CX X.prog X.w) X E) (ha : EA X C E (a :: es) fa) (hg : Gl X x := by rfl) (hdb : (x == ("__debug__" : Str)) = false := by decide)
    (he : starEach (a :: es) X.env = (false, eval a X.env) :: starEach es X.env := by rfl) (hpl : (backTo pos (starEach es X.env)).any (·.1) = false := by rfl) : EX X C E (.Call (.Name x p) (a :: es) [] pos) (dCall n φ fa) := by
  obtain ⟨fn, fd, ps, h1, h2, h3, h4, h5⟩ := T
  refine PE.imp (pe_call h5 hr hg h2 h3 h4 .nil hx ha hdb he hpl) fun σ H Q ⟨F, B, ρ, o, e, s, nn, c⟩ => ⟨F, B, ρ, o, e, s, nn, Con.then c fun xs o1 F1 H1 B1 vs st1 s1 i1 c1 => ?_⟩
  by_cases hl : xs.length = n
  · rw [if_pos hl] at c1
    show spF X.K C n φ (vs ++ []) H1 Q E
    rw [List.append_nil]
    exact ⟨i1.length.trans hl, F1, B1, o1, xs, st1.fh, s1, i1, c1⟩
  · rw [if_neg hl] at c1; exact c1.elim
theorem eMeth {m : Str} {o0 : Expr} {apos : Pos} {es : List Expr} {pl : Sem Bool} (T : Mt X.prog X.w X.K X.mg X.base C k m n φ) (hcl : Cls X.K C) (hr : Room k X.A) (hx : Passes (L2.CX X.prog X.w) X E) (ho : EX X C E o0 g) (ha : EA X C E (a :: es) fa)
    (hst : starEach (a :: es) X.env = (false, eval a X.env) :: starEach es X.env := by rfl) (hpl : (backTo pos (starEach es X.env)).any (·.1) = false := by rfl)
    (ht : eval (.Call (.Attribute o0 m apos) (a :: es) [] pos) X.env = (do
      let ov ← eval o0 X.env
      standAt apos.atName
      let (f, first) ← holding [ov] (getMethod ov m pl)
      callWith pos f first (backTo pos (starEach (a :: es) X.env)) (backToKw pos (keywordEach [] X.env))) := by rfl) : EX X C E (.Call (.Attribute o0 m apos) (a :: es) [] pos) (dMeth m n φ g fa) := by
  obtain ⟨fn, fd, ps, h1, h2, h4, h5⟩ := T
  refine PE.imp (pe_meth (pl := pl) ho hcl h2 h5 hr h4 .nil hx ha hst hpl ht) fun σ H Q ⟨F, B, ρ, o, e, s, nn, c⟩ => ⟨F, B, ρ, o, e, s, nn, Con.then c fun x o1 F1 H1 B1 v st1 s1 i1 c1 => ?_⟩
  cases q : fv o1 x with
  | none => rw [q] at c1; exact c1.elim
  | some pr =>
    obtain ⟨mm, fs⟩ := pr
    rw [q] at c1
    simp only at c1
    by_cases hm : fs.lookup m = none
    · rw [if_pos hm] at c1
      obtain ⟨ad, dx, fvs, _, hB, _, rfl, g2, g3, g4⟩ := i1.fv s1 q
      refine ⟨ad, dx, fvs, rfl, g2, (lookup_rel g3 g4).1 hm, F1, B1, ρ, o1, st1.fh, s1, nn.step st1, Con.then c1 fun xs o2 F2 H2 B2 vs st2 s2 i2 c2 => ?_⟩
      by_cases hl : xs.length + 1 = n
      · rw [if_pos hl] at c2
        show spF X.K C n φ (V.ref ad :: (vs ++ [])) H2 Q E
        rw [List.append_nil]
        exact ⟨by rw [List.length_cons, i2.length]; exact hl, F2, B2, o2, x :: xs, st2.fh, s2, .cons (st2.is i1) i2, c2⟩
      · rw [if_neg hl] at c2; exact c2.elim
    · rw [if_neg hm] at c1; exact c1.elim
theorem eFld {m : Str} (ha : EX X C E a g) (hcl : Cls X.K C) (hn : NoAttr X.K C m) (hb : attributeBase a m X.env (eval a X.env) = eval a X.env := by rfl) : EX X C E (.Attribute a m pos) (dFld m g) :=
  PE.imp (pe_fld ha hb) fun σ H Q ⟨F, B, ρ, o, e, s, nn, c⟩ => ⟨F, B, ρ, o, e, s, nn, Con.then c fun x o1 F1 H1 B1 v st1 s1 i1 c1 => by
    cases q : fv o1 x with
    | none => rw [q] at c1; exact c1.elim
    | some pr =>
      obtain ⟨mm, fs⟩ := pr
      rw [q] at c1
      obtain ⟨z, hz, k⟩ := con_of c1 s1
      obtain ⟨ad, dx, fvs, _, hB, _, rfl, g2, g3, g4⟩ := i1.fv s1 q
      obtain ⟨w, l1, l2⟩ := (lookup_rel g3 g4).2 z hz
      exact ⟨ad, C, dx, fvs, w, rfl, g2, hcl, hn, l1, k _ _ _ (Grow.refl st1.fh) l2⟩⟩
theorem not_mem_of {K : PySem.W.Frag} {F H : Hp} {B : List Addr} {o : Om} (s : Store K C F B H o) {p : Addr} (h : H p = none) : p ∉ B := fun q => s.there p q h
/-- a new handle -/
theorem Store.push {K : PySem.W.Frag} {F F' H H' : Hp} {B : List Addr} {o : Om} {p : Addr} {mo : MO} (s : Store K C F B H o) (g : Grow F H F' H') (hp : H p = none) (hn : H' p ≠ none) (at_ : At K C F' (B ++ [p]) H' p mo) : Store K C F' (B ++ [p]) H' (o ++ [mo]) := by
  have s' := s.grow g
  refine ⟨by rw [List.length_append, List.length_append, s.len] <;> rfl, ?_, fun a ha => ?_, fun n a m h1 h2 => ?_⟩
  · refine List.nodup_append.mpr ⟨s.nd, by simp, fun a ha b hb => ?_⟩
    rw [List.mem_singleton] at hb
    subst hb
    rintro rfl
    exact not_mem_of s hp ha
  · rcases List.mem_append.mp ha with h | h
    · exact s'.there a h
    · rw [List.mem_singleton] at h; subst h; exact hn
  · rcases Nat.lt_trichotomy n B.length with q | q | q
    · rw [List.getElem?_append_left q] at h1
      rw [List.getElem?_append_left (by rw [← s.len]; exact q)] at h2
      have z := s'.at_ n a m h1 h2
      have mn : ∀ (n : Nat) (x : Addr), B[n]? = some x → (B ++ [p])[n]? = some x := fun n x h => by
        rw [List.getElem?_append_left (List.getElem?_eq_some_iff.mp h).1]; exact h
      cases m with
      | ml xs => obtain ⟨z1, vs, z2, z3⟩ := z; exact ⟨z1, vs, z2, z3.mono (Sub.refl _) mn⟩
      | ins fs => obtain ⟨z1, dx, fvs, z2, z3, z4⟩ := z; exact ⟨z1, dx, fvs, z2, z3, z4.mono (Sub.refl _) mn⟩
      | gone => trivial
      | tb x => exact z
      | dt x => exact z
      | dn x => exact z
    · subst q
      rw [List.getElem?_append_right (Nat.le_refl _), Nat.sub_self] at h1
      rw [s.len, List.getElem?_append_right (Nat.le_refl _), Nat.sub_self] at h2
      cases h1
      cases h2
      exact at_
    · have e : (B ++ [p])[n]? = none := List.getElem?_eq_none (by rw [List.length_append]; exact q)
      rw [e] at h1; cases h1
/-- the step to a new handle -/
theorem Step.push {F F' H H' : Hp} {B : List Addr} {p : Addr} (g : Grow F H F' H') (hp : H p = none) : Step F H B F' H' (B ++ [p]) :=
  ⟨g.ff, g.fh, ⟨[p], rfl⟩, fun a o h _ => g.hh a o h, fun a h => sub_none g.hh h, fun a h n => .inl (g.nw a h n), fun a h => by
    rcases List.mem_append.mp h with h | h
    · exact .inl h
    · rw [List.mem_singleton] at h; subst h; exact .inr hp⟩
theorem getlast {α : Type} (l : List α) (x : α) : (l ++ [x])[l.length]? = some x := by simp
theorem eMake {x : Str} {p : Pos} {es : List Expr} (T : Ini X.prog X.w X.K X.mg X.base C k x n φ) (hr : Room (k + 1) X.A) (hx : Passes (L2.CX X.prog X.w) X E) (ha : EA X C E (a :: es) fa) (hg : Gl X x := by rfl) (hdb : (x == ("__debug__" : Str)) = false := by decide)
    (he : starEach (a :: es) X.env = (false, eval a X.env) :: starEach es X.env := by rfl) (hpl : (backTo pos (starEach es X.env)).any (·.1) = false := by rfl) : EX X C E (.Call (.Name x p) (a :: es) [] pos) (dMake n φ fa) := by
  obtain ⟨fn, fd, ps, h1, h2, h3, h4, h5⟩ := T
  refine PE.imp (pe_make h3 h5 hr hg h2 h4 .nil hx ha hdb he hpl) fun σ H Q ⟨F, B, ρ, o, e, s, nn, c⟩ => ⟨F, B, ρ, o, e, s, nn, Con.then c fun xs o1 F1 H1 B1 vs st1 s1 i1 c1 y dx hy hdx hne => ?_⟩
  by_cases hl : xs.length + 1 = n
  · rw [if_pos hl] at c1
    show spF X.K C n φ (V.ref y :: (vs ++ [])) _ _ E
    rw [List.append_nil]
    have g1 : Grow F1 H1 F1 (upd H1 dx (.own y)) := Grow.hid st1.fh hdx
    have g2 : Grow F1 (upd H1 dx (.own y)) F1 (upd (upd H1 dx (.own y)) y (.ins C dx [])) := Grow.hid g1.fh (by rw [upd_ne hne.symm]; exact hy)
    have gg := g1.trans g2
    have sp : Step F1 H1 B1 F1 _ (B1 ++ [y]) := Step.push gg hy
    have ss : Store X.K C F1 (B1 ++ [y]) _ (o1 ++ [.ins []]) := s1.push gg hy (by rw [upd_same]; exact fun z => nomatch z) ⟨sub_none st1.fh hy, dx, [], upd_same, rfl, .nil⟩
    have hnew : (B1 ++ [y])[o1.length]? = some y := by rw [← s1.len]; exact getlast _ _
    refine ⟨by rw [List.length_cons, i1.length]; exact hl, F1, B1 ++ [y], o1 ++ [.ins []], .obj o1.length :: xs, sp.fh, ss, .cons (.obj hnew) (sp.isL i1), Con.then (Con.step c1 sp) fun z o2 F2 H2 B2 v st2 s2 i2 c2 => ?_⟩
    cases i2 with
    | non => exact ⟨rfl, Con.pure (rel := Is X.K) c2 (Grow.refl st2.fh) s2 (.obj (st2.bm _ _ hnew))⟩
    | _ => exact c2.elim
  · rw [if_neg hl] at c1; exact c1.elim
/-- list(range(n)) -/
def rangeD (a b : Int) : List D := (List.range (b - a).toNat).map fun i => D.int (a + (i : Nat))
def opLRg (_ : Om) (x : D) : Option D := match x with
  | .int n => if n ≤ 100000 ∧ -100000 ≤ n then some (.lst (rangeD 0 n)) else none
  | _ => none
theorem isL_rg {K : PySem.W.Frag} {F : Hp} {B : List Addr} (a b : Int) : IsL K F B (rgV a b) (rangeD a b) := by
  unfold rgV rangeD
  generalize (b - a).toNat = n
  have : ∀ l : List Nat, IsL K F B (l.map fun i => V.int (a + (i : Nat))) (l.map fun i => D.int (a + (i : Nat))) := by
    intro l
    induction l with
    | nil => exact .nil
    | cons x r ih => exact .cons (.int _) ih
  exact this _
theorem eLRg {p p2 q : Pos} (hc : X.calm = true) (hm : X.mg "list" = none) (hm2 : X.mg "range" = none) (ha : EX X C E a g) (hg : Gl X "list" := by rfl) (hg2 : Gl X "range" := by rfl)
    (na : starEach [a] X.env = (false, eval a X.env) :: starEach [] X.env := by rfl) (nb : starEach [.Call (.Name "range" p2) [a] [] q] X.env = (false, eval (.Call (.Name "range" p2) [a] [] q) X.env) :: starEach [] X.env := by rfl) :
    EX X C E (.Call (.Name "list" p) [.Call (.Name "range" p2) [a] [] q] [] pos) (d1 opLRg g) :=
  PE.imp (pe_listRg hc hg hm (prg_1 hg2 hm2 ha na) nb) fun σ H Q ⟨F, B, ρ, o, e, s, n, c⟩ => ⟨F, B, ρ, o, e, s, n, Con.then c fun x o1 F1 H1 B1 v st1 s1 i1 c1 => by
    obtain ⟨z, hz, k⟩ := con_of c1 s1
    cases i1 with
    | int j =>
      have hz' : (if j ≤ 100000 ∧ -100000 ≤ j then some (D.lst (rangeD 0 j)) else none) = some z := hz
      by_cases hj : j ≤ 100000 ∧ -100000 ≤ j
      · rw [if_pos hj] at hz'; cases hz'
        refine ⟨j, rfl, ⟨by omega, by omega, by omega, by omega, by omega⟩, fun p hp => ?_⟩
        have g := Grow.new (o := .lst (rgV 0 j)) st1.fh hp
        exact k _ _ _ g (.lst upd_same (isL_rg 0 j))
      · rw [if_neg hj] at hz'; cases hz'
    | _ => cases hz⟩
end
end KR
set_option Elab.async false
set_option linter.all false
set_option maxRecDepth 100000
set_option maxHeartbeats 2000000
namespace KR
open PySem L2
/-! ### what is walked -/
inductive Src where
  | seq (d : D) | rng (lo : Int) (n : Nat) | rgc (lo c : Int) (n : Nat) | rev (d : D) (n : Nat)
/-- the item of a turn; none within: the end; none: not known -/
def nxt (o : Om) : Src → Nat → Option (Option D)
  | .seq d, i => (qv o d).map fun xs => xs[i]?
  | .rng lo n, i => some (if i < n then some (.int (lo + i)) else none)
  | .rgc lo c n, i => some (if i < n then some (.int (lo + i * c)) else none)
  | .rev d n, i => (lv o d).bind fun xs => if xs.length = n then some (if i < n then xs[n - 1 - i]? else none) else none
def srcN (o : Om) : Src → Nat
  | .seq d => ((qv o d).getD []).length
  | .rng _ n => n
  | .rgc _ _ n => n
  | .rev _ n => n
def JOk (K : PySem.W.Frag) (C : Addr) (F : Hp) (B : List Addr) (J : It) (src : Src) : Prop := ∀ F' H' B' o i, Sub F F' → (∀ (n : Nat) (a : Addr), B[n]? = some a → B'[n]? = some a) → Sub F' H' → Store K C F' B' H' o →
  (nxt o src i = some none → J.stop i H') ∧ ∀ x, nxt o src i = some (some x) → J.go i H' ∧ ∀ v H'', J.yld i H' v H'' → H'' = H' ∧ Is K F' B' v x
abbrev DI := Rho → Om → Res Src
abbrev EI (X : Cx) (C : Addr) (E : XK) (tg iter : Expr) (f : DI) : Prop := PI X tg iter (tOf X.K C (JOk X.K C) E f)
def iSeq' (f : DE) : DI := fun ρ o => (f ρ o).bind fun x o1 => if (qv o1 x).isSome = true then .ok (.seq x) o1 else .bad
def iR1 (f : DE) : DI := fun ρ o => (f ρ o).bind fun x o1 => match x with
  | .int n => if -100000 ≤ n ∧ n ≤ 100000 then .ok (.rng 0 n.toNat) o1 else .bad
  | _ => .bad
def iR2k (x y : D) (o2 : Om) : Res Src := match x, y with
  | .int m, .int n => if -100000 ≤ n ∧ n ≤ 100000 ∧ -100000 ≤ m ∧ m ≤ 100000 then .ok (.rng m (n - m).toNat) o2 else .bad
  | _, _ => .bad
def iR2 (f g : DE) : DI := fun ρ o => (f ρ o).bind fun x o1 => (g ρ o1).bind fun y o2 => iR2k x y o2
def iRv (f : DE) : DI := fun ρ o => (f ρ o).bind fun x o1 => match lv o1 x with
  | some xs => .ok (.rev x xs.length) o1
  | none => .bad
section
variable {X : Cx} {C : Addr} {E : XK} {a b c tg : Expr} {f g h : DE} {fa : DA} {pos : Pos}
theorem PI.imp {iter : Expr} {t t' : TI} (h : PI X tg iter t) (i : ∀ σ H R, t' σ H R → t σ H R) : PI X tg iter t' := ⟨fun pins s σ H Q I q => h.run pins s σ H Q I (i σ H Q q)⟩
theorem jok_l {K : PySem.W.Frag} {F : Hp} {B : List Addr} {ad : Addr} {d : D} (h : Is K F B (.ref ad) d) (hl : ∀ xs, d ≠ .tup xs) : JOk K C F B (Itl K ad) (.seq d) := by
  intro F' H' B' o i hf hb hs st
  have h' := h.mono hf hb
  have view : ∀ xs, qv o d = some xs → ∃ vs, SqL K H' ad vs ∧ IsL K F' B' vs xs := by
    intro xs q
    obtain ⟨a', vs, e, h1, h2⟩ := h'.qv st hs q
    cases e
    rcases h1 with h1 | h1
    · exact ⟨vs, h1, h2⟩
    · cases h' with
      | tup _ _ => exact (hl _ rfl).elim
      | lst g1 g2 => cases q; exact ⟨_, SqL.of (hs _ _ g1), g2⟩
      | scr g1 => cases q; exact ⟨_, sub_sql hs g1, isL_ints _⟩
      | exn g1 => cases q
      | @obj _ n g1 =>
        cases hy : o[n]? with
        | none => simp [qv, hy] at q
        | some mo =>
          cases mo with
          | ml ys =>
            simp [qv, hy] at q
            subst q
            obtain ⟨_, us, g2, g3⟩ := st.obj g1 hy
            exact ⟨us, SqL.of g2, g3⟩
          | _ => simp [qv, hy] at q
  constructor
  · intro e
    cases q : qv o d with
    | none => simp [nxt, q] at e
    | some xs =>
      obtain ⟨vs, g1, g2⟩ := view xs q
      simp only [nxt, q, Option.map_some, Option.some.injEq] at e
      exact ⟨vs, g1, by rw [g2.length]; exact List.getElem?_eq_none_iff.mp e⟩
  · intro x e
    cases q : qv o d with
    | none => simp [nxt, q] at e
    | some xs =>
      obtain ⟨vs, g1, g2⟩ := view xs q
      simp only [nxt, q, Option.map_some, Option.some.injEq] at e
      obtain ⟨v, g3, g4⟩ := g2.get e
      exact ⟨⟨vs, v, g1, g3⟩, fun u H'' ⟨y1, y2⟩ => ⟨y1, by have := y2 vs g1; rw [g3] at this; cases this; exact g4⟩⟩
theorem jok_t {K : PySem.W.Frag} {F : Hp} {B : List Addr} {ad : Addr} {xs : List D} (h : Is K F B (.ref ad) (.tup xs)) : JOk K C F B (Itt K ad) (.seq (.tup xs)) := by
  intro F' H' B' o i hf hb hs st
  cases h.mono hf hb with
  | @tup _ vs _ g1 g2 =>
    constructor
    · intro e
      simp only [nxt, qv, Option.map_some, Option.some.injEq] at e
      exact ⟨vs, SqT.of (hs _ _ g1), by rw [g2.length]; exact List.getElem?_eq_none_iff.mp e⟩
    · intro x e
      simp only [nxt, qv, Option.map_some, Option.some.injEq] at e
      obtain ⟨v, g3, g4⟩ := g2.get e
      exact ⟨⟨vs, v, SqT.of (hs _ _ g1), g3⟩, fun u H'' ⟨y1, y2⟩ => ⟨y1, by have := y2 vs (SqT.of (hs _ _ g1)); rw [g3] at this; cases this; exact g4⟩⟩
theorem iSeq (ha : EX X C E a f) : EI X C E tg a (iSeq' f) := by
  refine ⟨fun pins s σ H R I ⟨F, B, ρ, o, e, st, n, c⟩ => ?_⟩
  have key : ∀ v H1, (∃ ad, v = V.ref ad ∧ (((∃ xs, SqL X.K H1 ad xs) ∧ R (Itl X.K ad) H1) ∨ ((∃ xs, SqT X.K H1 ad xs) ∧ R (Itt X.K ad) H1))) → ∀ u s1, Inv X pins σ H1 s1 → RelV v u → wpAny (model X.prog X.w) X.A (pyIter u) (PIE X pins σ tg R) X.xe s1 := by
    rintro v H1 ⟨ad, rfl, q⟩ u s1 I1 r1
    cases r1
    rcases q with ⟨⟨xs, hq⟩, q⟩ | ⟨⟨xs, hq⟩, q⟩
    · obtain ⟨its, rv, p, hz⟩ := I1.list hq
      refine wpAny_pyIter_list p.isList ?_
      refine ⟨s1.heap.objs.size, [s1.heap.objs.size], _, _, H1, rfl, I1.kept (t' := s1.toks) fun b o e => Heap.get?_push_of_some _ e, turn_list ad _, ⟨_, Heap.get?_push_size _ rfl, rfl, rfl⟩, fun b hb => ?_, q⟩
      have e : b = s1.heap.objs.size := by simpa using hb
      subst e
      exact I1.fpOk (Nat.le_refl _) (I1.hok.fresh (Nat.le_refl _))
    · obtain ⟨its, rv, p, hz⟩ := I1.tuple hq
      refine wpAny_pyIter_tuple (show s1.heap.IsTuple ad its.toArray from p) ?_
      refine ⟨s1.heap.objs.size, [s1.heap.objs.size], _, _, H1, rfl, I1.kept (t' := s1.toks) fun b o e => Heap.get?_push_of_some _ e, turn_tuple ad _, ⟨_, Heap.get?_push_size _ rfl, rfl, rfl⟩, fun b hb => ?_, q⟩
      have e : b = s1.heap.objs.size := by simpa using hb
      subst e
      exact I1.fpOk (Nat.le_refl _) (I1.hok.fresh (Nat.le_refl _))
  refine thn (ha.run pins s σ H (fun v H1 => ∃ ad, v = V.ref ad ∧ (((∃ xs, SqL X.K H1 ad xs) ∧ R (Itl X.K ad) H1) ∨ ((∃ xs, SqT X.K H1 ad xs) ∧ R (Itt X.K ad) H1))) I ⟨F, B, ρ, o, e, st, n, Con.then c fun x o1 F1 H1 B1 v st1 s1 i1 c1 => ?_⟩) fun u s1 ⟨v, H1, I1, r1, q1⟩ => key v H1 q1 u s1 I1 r1
  by_cases hq : (qv o1 x).isSome = true
  · rw [if_pos hq] at c1
    obtain ⟨xs, hx⟩ := Option.isSome_iff_exists.mp hq
    obtain ⟨ad, vs, rfl, h1, h2⟩ := i1.qv s1 st1.fh hx
    refine ⟨ad, rfl, ?_⟩
    by_cases ht : ∃ ys, x = .tup ys
    · obtain ⟨ys, rfl⟩ := ht
      right
      have hh : ∃ zs, SqT X.K H1 ad zs := by
        cases i1 with
        | tup g1 g2 => exact ⟨_, SqT.of (st1.fh _ _ g1)⟩
      exact ⟨hh, Con.pure (rel := JOk X.K C) c1 (Grow.refl st1.fh) s1 (jok_t i1)⟩
    · left
      have ht' : ∀ ys, x ≠ .tup ys := fun ys e => ht ⟨ys, e⟩
      have hh : ∃ zs, SqL X.K H1 ad zs := by
        cases i1 with
        | tup g1 g2 => exact (ht' _ rfl).elim
        | lst g1 g2 => exact ⟨_, SqL.of (st1.fh _ _ g1)⟩
        | scr g1 => exact ⟨_, sub_sql st1.fh g1⟩
        | exn g1 => simp [qv] at hx
        | @obj _ n g1 =>
          cases hy : o1[n]? with
          | none => simp [qv, hy] at hx
          | some mo =>
            cases mo with
            | ml ys =>
              obtain ⟨_, us, g2, g3⟩ := s1.obj g1 hy
              exact ⟨us, SqL.of g2⟩
            | _ => simp [qv, hy] at hx
      exact ⟨hh, Con.pure (rel := JOk X.K C) c1 (Grow.refl st1.fh) s1 (jok_l i1 ht')⟩
  · rw [if_neg hq] at c1; exact c1.elim
theorem jok_r {K : PySem.W.Frag} {F : Hp} {B : List Addr} (lo : Int) (n : Nat) : JOk K C F B (Itr lo n) (.rng lo n) := by
  intro F' H' B' o i _ _ _ _
  constructor
  · intro e
    have e' : (if i < n then some (D.int (lo + i)) else none) = none := Option.some.inj e
    show n ≤ i
    by_cases h : i < n
    · rw [if_pos h] at e'; cases e'
    · omega
  · intro x e
    have e' : (if i < n then some (D.int (lo + i)) else none) = some x := Option.some.inj e
    by_cases h : i < n
    · rw [if_pos h] at e'; cases e'
      exact ⟨h, fun v H'' ⟨y1, y2⟩ => ⟨y1, by rw [y2]; exact .int _⟩⟩
    · rw [if_neg h] at e'; cases e'
theorem a1 {K : PySem.W.Frag} {F H : Hp} {B : List Addr} {ρ : Rho} {o : Om} {β δ : Type} {rel2 : Hp → List Addr → δ → β → Prop} {Q : δ → Hp → Prop} {k : D → Om → Res β} (c : Con K C rel2 E F H B Q ((f ρ o).bind k)) :
    Con K C rel2 E F H B Q ((dCons f dNil ρ o).bind fun xs o1 => match xs with
      | [x] => k x o1
      | _ => .bad) := by
  have e : ((dCons f dNil ρ o).bind fun xs o1 => match xs with
      | [x] => k x o1
      | _ => .bad) = (f ρ o).bind k := by
    unfold dCons dNil
    cases f ρ o <;> rfl
  rw [e]; exact c
theorem iRng1 {p : Pos} (hm : X.mg "range" = none) (ha : EX X C E a f) (hg : Gl X "range" := by rfl) (hs : starEach [a] X.env = [(false, eval a X.env)] := by rfl) : EI X C E tg (.Call (.Name "range" p) [a] [] pos) (iR1 f) :=
  PI.imp (pi_range1 hg hm (aCons ha aNil hs) hs) fun σ H R ⟨F, B, ρ, o, e, st, n, c⟩ => ⟨F, B, ρ, o, e, st, n, Con.then (a1 c) fun xs o1 F1 H1 B1 vs st1 s1 i1 c1 => by
    match xs, c1 with
    | [x], c1 =>
      obtain ⟨v, rfl, i⟩ := one_of i1
      cases i with
      | int j =>
        have c2 : Con X.K C (JOk X.K C) E F1 H1 B1 R (if -100000 ≤ j ∧ j ≤ 100000 then .ok (.rng 0 j.toNat) o1 else .bad) := c1
        by_cases hj : -100000 ≤ j ∧ j ≤ 100000
        · rw [if_pos hj] at c2
          exact ⟨j, rfl, by omega, by omega, Con.pure (rel := JOk X.K C) c2 (Grow.refl st1.fh) s1 (jok_r 0 _)⟩
        · rw [if_neg hj] at c2; exact c2.elim
      | _ => exact c1.elim
    | [], c1 => exact c1.elim
    | _ :: _ :: _, c1 => exact c1.elim⟩
theorem a2 {K : PySem.W.Frag} {F H : Hp} {B : List Addr} {ρ : Rho} {o : Om} {β δ : Type} {rel2 : Hp → List Addr → δ → β → Prop} {Q : δ → Hp → Prop} {k : D → D → Om → Res β} (c : Con K C rel2 E F H B Q ((f ρ o).bind fun x o1 => (g ρ o1).bind fun y o2 => k x y o2)) :
    Con K C rel2 E F H B Q ((dCons f (dCons g dNil) ρ o).bind fun xs o1 => match xs with
      | [x, y] => k x y o1
      | _ => .bad) := by
  have e : ((dCons f (dCons g dNil) ρ o).bind fun xs o1 => match xs with
      | [x, y] => k x y o1
      | _ => .bad) = ((f ρ o).bind fun x o1 => (g ρ o1).bind fun y o2 => k x y o2) := by
    unfold dCons dNil
    cases f ρ o with
    | ok x o1 => cases q : g ρ o1 <;> simp [q]
    | _ => rfl
  rw [e]; exact c
theorem iRng2 {p : Pos} (hm : X.mg "range" = none) (ha : EX X C E a f) (hb : EX X C E b g) (hg : Gl X "range" := by rfl) (hs : starEach [a, b] X.env = [(false, eval a X.env), (false, eval b X.env)] := by rfl) (hs2 : starEach [b] X.env = [(false, eval b X.env)] := by rfl) :
    EI X C E tg (.Call (.Name "range" p) [a, b] [] pos) (iR2 f g) :=
  PI.imp (pi_range2 hg hm (aCons ha (aCons hb aNil hs2) (by rw [hs, hs2])) hs hs2) fun σ H R ⟨F, B, ρ, o, e, st, n, c⟩ => ⟨F, B, ρ, o, e, st, n, Con.then (a2 (k := iR2k) c) fun xs o1 F1 H1 B1 vs st1 s1 i1 c1 => by
    match xs, c1 with
    | [x, y], c1 =>
      obtain ⟨v, u, rfl, i, j⟩ := two_of i1
      cases i with
      | int m =>
        cases j with
        | int n =>
          have c2 : Con X.K C (JOk X.K C) E F1 H1 B1 R (if -100000 ≤ n ∧ n ≤ 100000 ∧ -100000 ≤ m ∧ m ≤ 100000 then .ok (.rng m (n - m).toNat) o1 else .bad) := c1
          by_cases hj : -100000 ≤ n ∧ n ≤ 100000 ∧ -100000 ≤ m ∧ m ≤ 100000
          · rw [if_pos hj] at c2
            exact ⟨m, n, rfl, ⟨by omega, by omega, by omega, by omega⟩, Con.pure (rel := JOk X.K C) c2 (Grow.refl st1.fh) s1 (jok_r m _)⟩
          · rw [if_neg hj] at c2; exact c2.elim
        | _ => exact c1.elim
      | _ => cases j <;> exact c1.elim
    | [], c1 => exact c1.elim
    | [_], c1 => exact c1.elim
    | _ :: _ :: _ :: _, c1 => exact c1.elim⟩
theorem jok_v {K : PySem.W.Frag} {F : Hp} {B : List Addr} {ad : Addr} {d : D} (n : Nat) (h : Is K F B (.ref ad) d) : JOk K C F B (Itv K ad n) (.rev d n) := by
  intro F' H' B' o i hf hb hs st
  have h' := h.mono hf hb
  constructor
  · intro e
    cases q : lv o d with
    | none => simp [nxt, q] at e
    | some xs =>
      obtain ⟨a', vs, er, g1, g2⟩ := h'.lv st hs q
      cases er
      simp only [nxt, q, Option.bind_some] at e
      by_cases hn : xs.length = n
      · rw [if_pos hn] at e
        have e' : (if i < n then xs[n - 1 - i]? else none) = none := Option.some.inj e
        show n ≤ i
        by_cases hi : i < n
        · rw [if_pos hi] at e'
          have := List.getElem?_eq_none_iff.mp e'
          omega
        · omega
      · rw [if_neg hn] at e; cases e
  · intro x e
    cases q : lv o d with
    | none => simp [nxt, q] at e
    | some xs =>
      obtain ⟨a', vs, er, g1, g2⟩ := h'.lv st hs q
      cases er
      simp only [nxt, q, Option.bind_some] at e
      by_cases hn : xs.length = n
      · rw [if_pos hn] at e
        have e' : (if i < n then xs[n - 1 - i]? else none) = some x := Option.some.inj e
        by_cases hi : i < n
        · rw [if_pos hi] at e'
          obtain ⟨v, g3, g4⟩ := g2.get e'
          exact ⟨⟨hi, vs, v, SqL.of g1, g3⟩, fun u H'' ⟨y1, y2⟩ => ⟨y1, by have := y2 vs (SqL.of g1); rw [g3] at this; cases this; exact g4⟩⟩
        · rw [if_neg hi] at e'; cases e'
      · rw [if_neg hn] at e; cases e
theorem iRev {p : Pos} (hm : X.mg "reversed" = none) (ha : EX X C E a f) (hg : Gl X "reversed" := by rfl) (hs : starEach [a] X.env = [(false, eval a X.env)] := by rfl) : EI X C E tg (.Call (.Name "reversed" p) [a] [] pos) (iRv f) :=
  PI.imp (pi_reversed hg hm (aCons ha aNil hs) hs) fun σ H R ⟨F, B, ρ, o, e, st, n, c⟩ => ⟨F, B, ρ, o, e, st, n, Con.then (a1 c) fun xs o1 F1 H1 B1 vs st1 s1 i1 c1 => by
    match xs, c1 with
    | [x], c1 =>
      obtain ⟨v, rfl, i⟩ := one_of i1
      cases q : lv o1 x with
      | none => simp only [q] at c1; exact c1.elim
      | some ys =>
        simp only [q] at c1
        obtain ⟨ad, us, rfl, g1, g2⟩ := i.lv s1 st1.fh q
        refine ⟨ad, us, rfl, SqL.of g1, ?_⟩
        rw [g2.length]
        exact Con.pure (rel := JOk X.K C) c1 (Grow.refl st1.fh) s1 (jok_v _ i)
    | [], c1 => exact c1.elim
    | _ :: _ :: _, c1 => exact c1.elim⟩
end
end KR
set_option Elab.async false
set_option linter.all false
set_option maxRecDepth 100000
set_option maxHeartbeats 2000000
namespace KR
open PySem L2
/-! ### slots forgotten -/
def wipeE (ρ : Rho) : List Nat → Rho
  | [] => ρ
  | v :: vs => (wipeE ρ vs).set v .no
theorem wipe_at (σ : L2.St) (i : Nat) : ∀ vs : List Nat, (wipe σ vs)[i]? = if i ∈ vs then (if i < σ.length then some none else none) else σ[i]?
  | [] => by simp [wipe]
  | v :: vs => by
    unfold wipe
    rw [List.getElem?_set, wipe_at σ i vs, wipe_length]
    by_cases h : v = i
    · subst h; simp
    · have h' : ¬ i = v := fun e => h e.symm
      simp [h, h']
theorem wipeE_length (ρ : Rho) : ∀ vs : List Nat, (wipeE ρ vs).length = ρ.length
  | [] => rfl
  | v :: vs => by unfold wipeE; rw [List.length_set, wipeE_length ρ vs]
theorem wipeE_at (ρ : Rho) (i : Nat) : ∀ vs : List Nat, (wipeE ρ vs)[i]? = if i ∈ vs then (if i < ρ.length then some .no else none) else ρ[i]?
  | [] => by simp [wipeE]
  | v :: vs => by
    unfold wipeE
    rw [List.getElem?_set, wipeE_at ρ i vs, wipeE_length]
    by_cases h : v = i
    · subst h; simp
    · have h' : ¬ i = v := fun e => h e.symm
      simp [h, h']
theorem wipe_set {σ : L2.St} {j : Nat} {x : Option V} {vs : List Nat} (h : j ∈ vs) : wipe (σ.set j x) vs = wipe σ vs := by
  refine List.ext_getElem? fun i => ?_
  rw [wipe_at, wipe_at, List.length_set, List.getElem?_set]
  by_cases e : i ∈ vs
  · rw [if_pos e, if_pos e]
  · rw [if_neg e, if_neg e, if_neg (fun q => e (by rw [← q]; exact h))]
theorem wipe_wipe (σ : L2.St) (vs : List Nat) : wipe (wipe σ vs) vs = wipe σ vs := by
  refine List.ext_getElem? fun i => ?_
  rw [wipe_at, wipe_length, wipe_at]
  by_cases e : i ∈ vs
  · rw [if_pos e, if_pos e]
  · rw [if_neg e, if_neg e]
section
variable {K : PySem.W.Frag} {C : Addr} {F F' H H' : Hp} {B B' : List Addr} {o o' : Om} {σ σ' : L2.St} {ρ ρ' : Rho}
theorem EnvOk.wipe (n : EnvOk K F B H σ ρ) (vs : List Nat) : EnvOk K F B H (L2.wipe σ vs) (wipeE ρ vs) := by
  have back : ∀ (i : Nat) (y : EV), y ≠ .no → (wipeE ρ vs)[i]? = some y → ρ[i]? = some y ∧ (L2.wipe σ vs)[i]? = σ[i]? := by
    intro i y hy h
    rw [wipeE_at] at h
    rw [wipe_at]
    by_cases e : i ∈ vs
    · rw [if_pos e] at h
      by_cases q : i < ρ.length
      · rw [if_pos q] at h; cases h; exact (hy rfl).elim
      · rw [if_neg q] at h; cases h
    · rw [if_neg e] at h ⊢
      exact ⟨h, rfl⟩
  refine ⟨by rw [wipe_length, wipeE_length, n.len], fun i x h => ?_, fun i xs h => ?_, fun i j xs ys a h1 h2 h3 h4 => ?_⟩
  · obtain ⟨h1, h2⟩ := back i (.d x) (fun z => nomatch z) h
    rw [h2]; exact n.dat i x h1
  · obtain ⟨h1, h2⟩ := back i (.own xs) (fun z => nomatch z) h
    rw [h2]; exact n.own i xs h1
  · obtain ⟨g1, g2⟩ := back i (.own xs) (fun z => nomatch z) h1
    obtain ⟨g3, g4⟩ := back j (.own ys) (fun z => nomatch z) h2
    rw [g2] at h3; rw [g4] at h4
    exact n.sep i j xs ys a g1 g3 h3 h4
theorem getset {α : Type} {l : List α} {i j : Nat} {x y : α} (h : (l.set i x)[j]? = some y) : (i = j ∧ i < l.length ∧ x = y) ∨ (i ≠ j ∧ l[j]? = some y) := by
  rw [List.getElem?_set] at h
  by_cases e : i = j
  · rw [if_pos e] at h
    by_cases q : i < l.length
    · rw [if_pos q] at h; cases h; exact .inl ⟨e, q, rfl⟩
    · rw [if_neg q] at h; cases h
  · rw [if_neg e] at h; exact .inr ⟨e, h⟩
theorem EnvOk.setd (n : EnvOk K F B H σ ρ) {i : Nat} {v : V} {x : D} (h : Is K F B v x) : EnvOk K F B H (σ.set i (some v)) (ρ.set i (.d x)) := by
  refine ⟨by rw [List.length_set, List.length_set, n.len], fun j y q => ?_, fun j ys q => ?_, fun j k xs ys a h1 h2 h3 h4 => ?_⟩
  · rcases getset q with ⟨rfl, q1, q2⟩ | ⟨q1, q2⟩
    · cases q2
      exact ⟨v, List.getElem?_set_self (by rw [n.len]; exact q1), h⟩
    · rw [List.getElem?_set_ne q1]; exact n.dat j y q2
  · rcases getset q with ⟨rfl, q1, q2⟩ | ⟨q1, q2⟩
    · cases q2
    · rw [List.getElem?_set_ne q1]; exact n.own j ys q2
  · rcases getset h1 with ⟨_, _, q2⟩ | ⟨q1, q2⟩
    · cases q2
    · rcases getset h2 with ⟨_, _, q4⟩ | ⟨q3, q4⟩
      · cases q4
      · rw [List.getElem?_set_ne q1] at h3
        rw [List.getElem?_set_ne q3] at h4
        exact n.sep j k xs ys a q2 q4 h3 h4
/-- a list of one's own at a new place -/
theorem EnvOk.seto (n : EnvOk K F B H σ ρ) {i : Nat} {a : Addr} {vs : List V} {xs : List D} (h : H a = some (.lst vs)) (hi : IsL K F B vs xs) (hF : F a = none) (hB : a ∉ B) (hnew : ∀ j ys, j ≠ i → ρ[j]? = some (.own ys) → σ[j]? ≠ some (some (.ref a))) :
    EnvOk K F B H (σ.set i (some (.ref a))) (ρ.set i (.own xs)) := by
  refine ⟨by rw [List.length_set, List.length_set, n.len], fun j y q => ?_, fun j ys q => ?_, fun j k xs ys b h1 h2 h3 h4 => ?_⟩
  · rcases getset q with ⟨rfl, q1, q2⟩ | ⟨q1, q2⟩
    · cases q2
    · rw [List.getElem?_set_ne q1]; exact n.dat j y q2
  · rcases getset q with ⟨rfl, q1, q2⟩ | ⟨q1, q2⟩
    · cases q2
      exact ⟨a, vs, List.getElem?_set_self (by rw [n.len]; exact q1), h, hi, hF, hB⟩
    · rw [List.getElem?_set_ne q1]; exact n.own j ys q2
  · rcases getset h1 with ⟨rfl, q1, _⟩ | ⟨q1, q2⟩
    · rcases getset h2 with ⟨rfl, _, _⟩ | ⟨q3, q4⟩
      · rfl
      · rw [List.getElem?_set_self (by rw [n.len]; exact q1)] at h3
        rw [List.getElem?_set_ne q3] at h4
        cases h3
        exact (hnew k ys (fun e => q3 e.symm) q4 h4).elim
    · rcases getset h2 with ⟨rfl, q3, _⟩ | ⟨q3, q4⟩
      · rw [List.getElem?_set_self (by rw [n.len]; exact q3)] at h4
        rw [List.getElem?_set_ne q1] at h3
        cases h4
        exact (hnew j xs (fun e => q1 e.symm) q2 h3).elim
      · rw [List.getElem?_set_ne q1] at h3
        rw [List.getElem?_set_ne q3] at h4
        exact n.sep j k xs ys b q2 q4 h3 h4
/-! ### what no handle and nothing known tells may change -/
theorem Step.ownw (s : Step F H B F' H' B') {p : Addr} {x : HO} (h0 : H p = none) (hF : F' p = none) (hB : p ∉ B') : Step F H B F' (upd H' p x) B' := by
  refine ⟨s.ff, fun a u q => ?_, s.bb, fun a u q n => ?_, fun a q => ?_, s.nw, s.bn⟩
  · by_cases e : a = p
    · subst e; rw [hF] at q; cases q
    · rw [upd_ne e]; exact s.fh a u q
  · by_cases e : a = p
    · subst e; rw [h0] at q; cases q
    · rw [upd_ne e]; exact s.kp a u q n
  · by_cases e : a = p
    · subst e; rw [upd_same] at q; cases q
    · rw [upd_ne e] at q; exact s.th a q
theorem Store.ownw (s : Store K C F B H o) {p : Addr} {x : HO} (hB : p ∉ B) : Store K C F B (upd H p x) o := by
  refine ⟨s.len, s.nd, fun a ha => ?_, fun n a mo h1 h2 => ?_⟩
  · rw [upd_ne (fun e => hB (by rw [← e]; exact ha))]; exact s.there a ha
  · have hn : a ≠ p := fun e => hB (by rw [← e]; exact List.mem_of_getElem? h1)
    have z := s.at_ n a mo h1 h2
    cases mo with
    | ml xs => obtain ⟨z1, vs, z2, z3⟩ := z; exact ⟨z1, vs, by rw [upd_ne hn]; exact z2, z3⟩
    | ins fs => obtain ⟨z1, dx, fvs, z2, z3, z4⟩ := z; exact ⟨z1, dx, fvs, by rw [upd_ne hn]; exact z2, z3, z4⟩
    | gone => trivial
    | tb x => obtain ⟨z1, z2, ps, z3, z4, z5⟩ := z; exact ⟨z1, z2, ps, by rw [upd_ne hn]; exact z3, z4, z5⟩
    | dt x => obtain ⟨z1, z2⟩ := z; exact ⟨z1, by rw [upd_ne hn]; exact z2⟩
    | dn x => obtain ⟨z1, z2⟩ := z; exact ⟨z1, by rw [upd_ne hn]; exact z2⟩
/-- it is known for good from now on -/
theorem Store.learn (s : Store K C F B H o) {p : Addr} {x : HO} (hF : F p = none) (hB : p ∉ B) : Store K C (upd F p x) B H o := by
  refine ⟨s.len, s.nd, s.there, fun n a mo h1 h2 => ?_⟩
  have hn : a ≠ p := fun e => hB (by rw [← e]; exact List.mem_of_getElem? h1)
  have z := s.at_ n a mo h1 h2
  cases mo with
  | ml xs => obtain ⟨z1, vs, z2, z3⟩ := z; exact ⟨by rw [upd_ne hn]; exact z1, vs, z2, z3.mono (sub_upd hF) fun _ _ h => h⟩
  | ins fs => obtain ⟨z1, dx, fvs, z2, z3, z4⟩ := z; exact ⟨by rw [upd_ne hn]; exact z1, dx, fvs, z2, z3, z4.mono (sub_upd hF) fun _ _ h => h⟩
  | gone => trivial
  | dt x => obtain ⟨z1, z2⟩ := z; exact ⟨by rw [upd_ne hn]; exact z1, z2⟩
  | dn x => obtain ⟨z1, z2⟩ := z; exact ⟨by rw [upd_ne hn]; exact z1, z2⟩
  | tb x => obtain ⟨z1, z2, ps, z3, z4, z5⟩ := z; exact ⟨by rw [upd_ne hn]; exact z1, z2, ps, z3, z4, fun p cv q => by obtain ⟨c, e1, e2⟩ := z5 p cv q; exact ⟨c, e1, sub_upd hF _ _ e2⟩⟩
theorem Step.learn (s : Step F H B F' H' B') {p : Addr} {x : HO} (h0 : H p = none) (hF : F' p = none) (hH : H' p = some x) : Step F H B (upd F' p x) H' B' := by
  refine ⟨s.ff.trans (sub_upd hF), fun a u q => ?_, s.bb, s.kp, s.th, fun a q n => ?_, s.bn⟩
  · by_cases e : a = p
    · subst e; rw [upd_same] at q; rw [hH]; exact q
    · rw [upd_ne e] at q; exact s.fh a u q
  · by_cases e : a = p
    · subst e; exact .inl h0
    · rw [upd_ne e] at n; exact s.nw a q n
/-- a handle to a list that nobody knows -/
theorem Store.take (s : Store K C F B H o) {p : Addr} {mo : MO} (hB : p ∉ B) (hn : H p ≠ none) (at_ : At K C F (B ++ [p]) H p mo) : Store K C F (B ++ [p]) H (o ++ [mo]) := by
  refine ⟨by rw [List.length_append, List.length_append, s.len] <;> rfl, ?_, fun a ha => ?_, fun n a m h1 h2 => ?_⟩
  · refine List.nodup_append.mpr ⟨s.nd, by simp, fun a ha b hb => ?_⟩
    rw [List.mem_singleton] at hb
    subst hb
    rintro rfl
    exact hB ha
  · rcases List.mem_append.mp ha with h | h
    · exact s.there a h
    · rw [List.mem_singleton] at h; subst h; exact hn
  · rcases Nat.lt_trichotomy n B.length with q | q | q
    · rw [List.getElem?_append_left q] at h1
      rw [List.getElem?_append_left (by rw [← s.len]; exact q)] at h2
      have z := s.at_ n a m h1 h2
      have mn : ∀ (n : Nat) (x : Addr), B[n]? = some x → (B ++ [p])[n]? = some x := fun n x h => by
        rw [List.getElem?_append_left (List.getElem?_eq_some_iff.mp h).1]; exact h
      cases m with
      | ml xs => obtain ⟨z1, vs, z2, z3⟩ := z; exact ⟨z1, vs, z2, z3.mono (Sub.refl _) mn⟩
      | ins fs => obtain ⟨z1, dx, fvs, z2, z3, z4⟩ := z; exact ⟨z1, dx, fvs, z2, z3, z4.mono (Sub.refl _) mn⟩
      | gone => trivial
      | tb x => exact z
      | dt x => exact z
      | dn x => exact z
    · subst q
      rw [List.getElem?_append_right (Nat.le_refl _), Nat.sub_self] at h1
      rw [s.len, List.getElem?_append_right (Nat.le_refl _), Nat.sub_self] at h2
      cases h1
      cases h2
      exact at_
    · have e : (B ++ [p])[n]? = none := List.getElem?_eq_none (by rw [List.length_append]; exact q)
      rw [e] at h1; cases h1
theorem Step.take (s : Step F H B F' H' B') {p : Addr} (h0 : H p = none) : Step F H B F' H' (B' ++ [p]) := by
  refine ⟨s.ff, s.fh, ?_, s.kp, s.th, s.nw, fun a h => ?_⟩
  · obtain ⟨t, rfl⟩ := s.bb
    exact ⟨t ++ [p], by rw [List.append_assoc]⟩
  · rcases List.mem_append.mp h with h | h
    · exact s.bn a h
    · rw [List.mem_singleton] at h; subst h; exact .inr h0
theorem nodup_at {α : Type} : ∀ {l : List α} {i j : Nat} {x : α}, l.Nodup → l[i]? = some x → l[j]? = some x → i = j
  | [], i, j, x, _, h, _ => by simp at h
  | a :: l, 0, 0, x, _, _, _ => rfl
  | a :: l, 0, j + 1, x, nd, h1, h2 => by
    simp at h1 h2
    subst h1
    exact ((List.nodup_cons.mp nd).1 (List.mem_of_getElem? h2)).elim
  | a :: l, i + 1, 0, x, nd, h1, h2 => by
    simp at h1 h2
    subst h2
    exact ((List.nodup_cons.mp nd).1 (List.mem_of_getElem? h1)).elim
  | a :: l, i + 1, j + 1, x, nd, h1, h2 => by
    have ih : i = j := nodup_at (l := l) (i := i) (j := j) (x := x) (List.nodup_cons.mp nd).2 (by simpa using h1) (by simpa using h2)
    rw [ih]
/-- a handle's own content changes -/
theorem Store.put (s : Store K C F B H o) {n : Nat} {p : Addr} {vs : List V} {xs : List D} (hn : B[n]? = some p) (hF : F p = none) (hi : IsL K F B vs xs) : Store K C F B (upd H p (.lst vs)) (o.set n (.ml xs)) := by
  refine ⟨by rw [List.length_set]; exact s.len, s.nd, fun a ha => ?_, fun m a mo h1 h2 => ?_⟩
  · by_cases e : a = p
    · subst e; rw [upd_same]; exact fun z => nomatch z
    · rw [upd_ne e]; exact s.there a ha
  · by_cases e : a = p
    · subst e
      have em : m = n := by
        exact nodup_at s.nd h1 hn
      subst em
      rcases getset h2 with ⟨_, _, q⟩ | ⟨q, _⟩
      · subst q; exact ⟨hF, vs, upd_same, hi⟩
      · exact (q rfl).elim
    · have ne : n ≠ m := fun q => e (by subst q; rw [hn] at h1; exact (Option.some.inj h1).symm)
      rw [List.getElem?_set_ne ne] at h2
      have z := s.at_ m a mo h1 h2
      cases mo with
      | ml xs => obtain ⟨z1, vs, z2, z3⟩ := z; exact ⟨z1, vs, by rw [upd_ne e]; exact z2, z3⟩
      | ins fs => obtain ⟨z1, dx, fvs, z2, z3, z4⟩ := z; exact ⟨z1, dx, fvs, by rw [upd_ne e]; exact z2, z3, z4⟩
      | gone => trivial
      | tb x => obtain ⟨z1, z2, ps, z3, z4, z5⟩ := z; exact ⟨z1, z2, ps, by rw [upd_ne e]; exact z3, z4, z5⟩
      | dt x => obtain ⟨z1, z2⟩ := z; exact ⟨z1, by rw [upd_ne e]; exact z2⟩
      | dn x => obtain ⟨z1, z2⟩ := z; exact ⟨z1, by rw [upd_ne e]; exact z2⟩
theorem Step.put (s : Step F H B F' H' B') {n : Nat} {p : Addr} {x : HO} (hn : B'[n]? = some p) (hF : F' p = none) : Step F H B F' (upd H' p x) B' := by
  refine ⟨s.ff, fun a u q => ?_, s.bb, fun a u q m => ?_, fun a q => ?_, s.nw, s.bn⟩
  · by_cases e : a = p
    · subst e; rw [hF] at q; cases q
    · rw [upd_ne e]; exact s.fh a u q
  · by_cases e : a = p
    · subst e
      rcases s.bn a (List.mem_of_getElem? hn) with z | z
      · exact (m z).elim
      · rw [q] at z; cases z
    · rw [upd_ne e]; exact s.kp a u q m
  · by_cases e : a = p
    · subst e; rw [upd_same] at q; cases q
    · rw [upd_ne e] at q; exact s.th a q
end
/-! ### targets -/
structure Pat where
  f : D → Rho → Option Rho
  sl : List Nat
structure Pats where
  f : List D → Rho → Option Rho
  sl : List Nat
def pNm (i : Nat) : Pat := ⟨fun x ρ => some (ρ.set i (.d x)), [i]⟩
def psNil : Pats := ⟨fun xs ρ => match xs with
  | [] => some ρ
  | _ => none, []⟩
def psCons (p : Pat) (ps : Pats) : Pats := ⟨fun xs ρ => match xs with
  | x :: r => (p.f x ρ).bind fun ρ1 => ps.f r ρ1
  | [] => none, p.sl ++ ps.sl⟩
def pTp (ps : Pats) : Pat := ⟨fun x ρ => match x with
  | .tup xs => ps.f xs ρ
  | _ => none, ps.sl⟩
/-- where the lists of one's own stand -/
def OwnOf (σ : L2.St) (ρ : Rho) (a : Addr) : Prop := ∃ (i : Nat) (xs : List D), ρ[i]? = some (.own xs) ∧ σ[i]? = some (some (.ref a))
theorem OwnOf.setd {σ : L2.St} {ρ : Rho} {i : Nat} {v : Option V} {x : D} {a : Addr} (h : OwnOf (σ.set i v) (ρ.set i (.d x)) a) : OwnOf σ ρ a := by
  obtain ⟨j, xs, h1, h2⟩ := h
  rcases getset h1 with ⟨_, _, q⟩ | ⟨q1, q2⟩
  · cases q
  · rw [List.getElem?_set_ne q1] at h2
    exact ⟨j, xs, q2, h2⟩
def tG {α γ : Type} (K : PySem.W.Frag) (C : Addr) (rel : Hp → List Addr → γ → α → Prop) (f : α → Rho → Option Rho) (sl : List Nat) : γ → L2.St → Hp → (L2.St → Hp → Prop) → Prop := fun v σ H Q =>
  ∃ F B o ρ x ρ', Sub F H ∧ Store K C F B H o ∧ EnvOk K F B H σ ρ ∧ rel F B v x ∧ f x ρ = some ρ' ∧ ∀ σ', EnvOk K F B H σ' ρ' → (∀ vs : List Nat, (∀ j ∈ sl, j ∈ vs) → wipe σ' vs = wipe σ vs) → (∀ a, OwnOf σ' ρ' a → OwnOf σ ρ a) → Q σ' H
abbrev EG (X : Cx) (C : Addr) (tg : Expr) (p : Pat) : Prop := PG X tg (tG X.K C (Is X.K) p.f p.sl)
abbrev EGs (X : Cx) (C : Addr) (tg : List Expr) (p : Pats) : Prop := PGs X tg (tG X.K C (IsL X.K) p.f p.sl)
section
variable {X : Cx} {C : Addr} {E : XK} {pos : Pos}
theorem PG.imp {tg : Expr} {t t' : TG} (h : PG X tg t) (i : ∀ v σ H R, t' v σ H R → t v σ H R) : PG X tg t' := ⟨fun pins s σ H v u Q I r q => h.run pins s σ H v u Q I r (i v σ H Q q)⟩
theorem PGs.imp {tg : List Expr} {t t' : TGs} (h : PGs X tg t) (i : ∀ v σ H R, t' v σ H R → t v σ H R) : PGs X tg t' := ⟨fun pins s σ H v u Q I r q => h.run pins s σ H v u Q I r (i v σ H Q q)⟩
theorem gNm (i : Nat) {x : Str} (hN : X.N.Nodup) (hi : X.N[i]? = some x := by rfl) (hx : Loc X.env.scope x := by first | exact Or.inl rfl | exact Or.inr rfl) (hf : X.fn x = true ∨ X.env.scope.names.lookup x = some .local := by first | exact .inl rfl | exact .inr rfl) : EG X C (.Name x pos) (pNm i) :=
  PG.imp (pg_name hN hi hx hf) fun v σ H Q ⟨F, B, o, ρ, x, ρ', e, s, n, i1, hp, k⟩ => by
    cases hp
    exact k _ (n.setd i1) (fun vs hv => wipe_set (hv _ (by simp [pNm]))) fun a h => h.setd
theorem gNil : EGs X C [] psNil := PGs.imp pgs_nil fun v σ H Q ⟨F, B, o, ρ, x, ρ', e, s, n, i1, hp, k⟩ => by
  cases i1 with
  | nil => cases hp; exact ⟨rfl, k _ n (fun _ _ => rfl) fun _ h => h⟩
  | cons _ _ => cases hp
theorem gCons' {e : Expr} {es : List Expr} {p : Pat} {ps : Pats} (h1 : EG X C e p) (h2 : EGs X C es ps) (hs : (assignEach (e :: es) X.env).map (·.2) = assign e X.env :: (assignEach es X.env).map (·.2) := by rfl) : EGs X C (e :: es) (psCons p ps) :=
  PGs.imp (pgs_cons h1 h2 hs) fun v σ H Q ⟨F, B, o, ρ, x, ρ', e, s, n, i1, hp, k⟩ => by
    cases i1 with
    | nil => cases hp
    | @cons w ws d ds g1 g2 =>
      have hp' : ((p.f d ρ).bind fun ρ1 => ps.f ds ρ1) = some ρ' := hp
      cases q : p.f d ρ with
      | none => rw [q] at hp'; cases hp'
      | some ρ1 =>
        rw [q] at hp'
        refine ⟨w, ws, rfl, F, B, o, ρ, d, ρ1, e, s, n, g1, q, fun σ1 n1 w1 o1 => ⟨F, B, o, ρ1, ds, ρ', e, s, n1, g2, hp', fun σ2 n2 w2 o2 => k σ2 n2 (fun vs hv => ?_) fun a h => o1 a (o2 a h)⟩⟩
        rw [w2 vs fun j hj => hv j (List.mem_append.mpr (.inr hj)), w1 vs fun j hj => hv j (List.mem_append.mpr (.inl hj))]
theorem IsT.len {K : PySem.W.Frag} {F : Hp} {B : List Addr} {v : V} {xs : List D} (h : Is K F B v (.tup xs)) : ∃ a vs, v = .ref a ∧ F a = some (.tup vs) ∧ IsL K F B vs xs := by
  cases h with
  | tup h1 h2 => exact ⟨_, _, rfl, h1, h2⟩
/-- pats of a tuple know their number -/
def psLen (n : Nat) (p : Pats) : Pats := ⟨fun xs ρ => if xs.length = n then p.f xs ρ else none, p.sl⟩
theorem gTup {es : List Expr} {k n : Nat} {p : Pats} (hc : X.calm = true) (h : EGs X C es p) (hn : (assignEach es X.env).length = n := by rfl) (hst : (assignEach es X.env).findIdx? (·.1) = none := by rfl) : EG X C (.Tuple es k pos) (pTp (psLen n p)) :=
  PG.imp (pg_tup hc h hn hst) fun v σ H Q ⟨F, B, o, ρ, x, ρ', e, s, nn, i1, hp, k⟩ => by
    cases i1 with
    | @tup a vs xs g1 g2 =>
      have hp' : (if xs.length = n then p.f xs ρ else none) = some ρ' := hp
      by_cases hl : xs.length = n
      · rw [if_pos hl] at hp'
        exact ⟨a, vs, rfl, SqT.of (e _ _ g1), g2.length.trans hl, F, B, o, ρ, xs, ρ', e, s, nn, g2, hp', k⟩
      · rw [if_neg hl] at hp'; cases hp'
    | _ => cases hp
end
end KR
set_option Elab.async false
set_option linter.all false
set_option maxRecDepth 100000
set_option maxHeartbeats 2000000
namespace KR
open PySem L2
/-! ### comprehensions -/
def dYes : DB := fun _ o => .ok true o
def loopC (src : Src) (p : Pat) (tt : DB) (te : DE) (ρ : Rho) : Nat → Nat → Om → Res (List D)
  | 0, _, _ => .bad
  | k + 1, i, o => match nxt o src i with
    | none => .bad
    | some none => .ok [] o
    | some (some x) => match p.f x ρ with
      | none => .bad
      | some ρ1 => match tt ρ1 o with
        | .ok true o1 => match te ρ1 o1 with
          | .ok y o2 => if i < 100000 then (match loopC src p tt te ρ k (i + 1) o2 with
            | .ok r o3 => .ok (y :: r) o3
            | _ => .bad) else .bad
          | _ => .bad
        | .ok false o1 => loopC src p tt te ρ k (i + 1) o1
        | _ => .bad
def dLc0 (fi : DI) (p : Pat) (tt : DB) (te : DE) (vs : List Nat) : Rho → Om → Res (List D) := fun ρ o => (fi ρ o).bind fun src o1 => loopC src p tt te (wipeE ρ vs) (srcN o1 src + 1) 0 o1
def dLc (fi : DI) (p : Pat) (tt : DB) (te : DE) (vs : List Nat) : DE := fun ρ o => (dLc0 fi p tt te vs ρ o).bind fun xs o1 => .ok (.lst xs) o1
/-- the new list behind a handle -/
def dLcH (fi : DI) (p : Pat) (tt : DB) (te : DE) (vs : List Nat) : DE := fun ρ o => (dLc0 fi p tt te vs ρ o).bind fun xs o1 => .ok (.obj o1.length) (o1 ++ [.ml xs])
theorem loopC_exc {src : Src} {p : Pat} {tt : DB} {te : DE} {ρ : Rho} : ∀ (k i : Nat) (o : Om) (x : Xc) (o' : Om), loopC src p tt te ρ k i o ≠ .exc x o'
  | 0, i, o, x, o', h => by cases h
  | k + 1, i, o, x, o', h => by
    unfold loopC at h
    split at h
    · cases h
    · cases h
    · split at h
      · cases h
      · split at h
        · split at h
          · split at h
            · split at h <;> cases h
            · cases h
          · cases h
        · exact loopC_exc _ _ _ _ _ h
        · cases h
abbrev ETs (X : Cx) (C : Addr) (E : XK) (es : List Expr) (f : DB) : Prop := PTs X es (tT X.K C E f)
section
variable {X : Cx} {C : Addr} {E : XK} {a b c tg : Expr} {f g h : DE} {fa : DA} {pos : Pos}
theorem PTs.imp {e : List Expr} {t t' : TT} (h : PTs X e t) (i : ∀ σ H Q, t' σ H Q → t σ H Q) : PTs X e t' := ⟨fun pins s σ H Q I q => h.run pins s σ H Q I (i σ H Q q)⟩
theorem tsNil : ETs X C E [] dYes := PTs.imp pts_nil fun σ H Q ⟨F, B, ρ, o, e, s, n, c⟩ => Con.pure (rel := relB) c (Grow.refl e) s rfl
theorem tsOne {tf : DB} (h : ET X C E a tf) : ETs X C E [a] tf := pts_one h
/-- the comprehension's turns -/
theorem lc_run {fi : DI} {p : Pat} {tt : DB} {te : DE} {vs : List Nat} (hp : ∀ j ∈ p.sl, j ∈ vs) {K : PySem.W.Frag} {σ : L2.St} {H : Hp} {Q : VK} {F : Hp} {B : List Addr} {ρ : Rho} {o : Om} (e0 : Sub F H) (s0 : Store K C F B H o) (n0 : EnvOk K F B H σ ρ)
    {β : Type} {rel : Hp → List Addr → V → β → Prop} {kf : List D → Om → Res β} (c : Con K C rel E F H B Q ((dLc0 fi p tt te vs ρ o).bind kf))
    (fin : ∀ F1 H1 B1 F' H' B' o' L accv acc, Step F1 H1 B1 F' H' B' → Store K C F' B' H' o' → H1 L = none → H' L = some (.lst accv) → IsL K F' B' accv acc → F' L = none → L ∉ B' → Con K C rel E F1 H1 B1 Q (kf acc o') → Q (.ref L) H') :
    tLc (tOf K C (JOk K C) E fi) (tG K C (Is K) p.f p.sl) (tT K C E0 tt) (tE K C E0 te) vs σ H Q := by
  have e1 : (dLc0 fi p tt te vs ρ o).bind kf = (fi ρ o).bind fun src o1 => (loopC src p tt te (wipeE ρ vs) (srcN o1 src + 1) 0 o1).bind kf := by
    unfold dLc0
    cases fi ρ o <;> rfl
  rw [e1] at c
  refine ⟨F, B, ρ, o, e0, s0, n0, Con.then (k := fun src o1 => (loopC src p tt te (wipeE ρ vs) (srcN o1 src + 1) 0 o1).bind kf) (rel2 := rel) c fun src o1 F1 H1 B1 J st1 s1 j1 c1 L hL => ?_⟩
  have n1 := n0.step st1
  refine ⟨fun i m H' => ∃ F' B' o' accv acc r o'', Step F1 H1 B1 F' H' B' ∧ Store K C F' B' H' o' ∧ H' L = some (.lst accv) ∧ IsL K F' B' accv acc ∧ F' L = none ∧ L ∉ B' ∧ acc.length ≤ i ∧
    loopC src p tt te (wipeE ρ vs) m i o' = .ok r o'' ∧ Con K C rel E F1 H1 B1 Q (kf (acc ++ r) o''), ⟨srcN o1 src + 1, ?_⟩, ?_⟩
  · cases q : loopC src p tt te (wipeE ρ vs) (srcN o1 src + 1) 0 o1 with
    | bad => simp only [q] at c1; exact c1.elim
    | exc x o' => exact (loopC_exc _ _ _ _ _ q).elim
    | ok r o'' =>
      simp only [q] at c1
      have fL : F1 L = none := sub_none st1.fh hL
      have bL : L ∉ B1 := not_mem_of s1 hL
      exact ⟨F1, B1, o1, [], [], r, o'', Step.ownw (Step.refl st1.fh) hL fL bL, s1.ownw bL, upd_same, .nil, fL, bL, Nat.zero_le _, q, c1⟩
  · rintro i m H' ⟨F', B', o', accv, acc, r, o'', st, ss, hl, il, fl, bl, hi, hk, ck⟩
    cases m with
    | zero => cases hk
    | succ m =>
      unfold loopC at hk
      obtain ⟨j2, j3⟩ := j1 F' H' B' o' i st.ff st.bm st.fh ss
      cases hx : nxt o' src i with
      | none => rw [hx] at hk; cases hk
      | some z =>
        rw [hx] at hk
        cases z with
        | none =>
          cases hk
          rw [List.append_nil] at ck
          exact .inl ⟨j2 hx, fin F1 H1 B1 F' H' B' o' L accv acc st ss hL hl il fl bl ck⟩
        | some x =>
          simp only at hk
          obtain ⟨j4, j5⟩ := j3 x hx
          refine .inr ⟨j4, fun H5 => ∃ m', m' < m + 1 ∧ ∃ F' B' o' accv acc r o'', Step F1 H1 B1 F' H5 B' ∧ Store K C F' B' H5 o' ∧ H5 L = some (.lst accv) ∧ IsL K F' B' accv acc ∧ F' L = none ∧ L ∉ B' ∧ acc.length ≤ i + 1 ∧
            loopC src p tt te (wipeE ρ vs) m' (i + 1) o' = .ok r o'' ∧ Con K C rel E F1 H1 B1 Q (kf (acc ++ r) o''), fun H5 q => q, fun v H2 hy => ?_⟩
          obtain ⟨rfl, iv⟩ := j5 v H2 hy
          cases hp1 : p.f x (wipeE ρ vs) with
          | none => rw [hp1] at hk; cases hk
          | some ρ1 =>
            rw [hp1] at hk
            simp only at hk
            refine ⟨F', B', o', wipeE ρ vs, x, ρ1, st.fh, ss, (n1.step st).wipe vs, iv, hp1, fun σ' n' w' _ => ⟨?_, F', B', ρ1, o', st.fh, ss, n', ?_⟩⟩
            · rw [w' vs hp, wipe_wipe]
            · cases ht : tt ρ1 o' with
              | bad => rw [ht] at hk; cases hk
              | exc y z => rw [ht] at hk; cases hk
              | ok b o1' =>
                rw [ht] at hk
                intro F3 H3 B3 b' st3 ss3 eb
                cases eb
                have stt := st.trans st3
                have hl3 : H3 L = some (.lst accv) := st3.kp L _ hl bl
                have fl3 : F3 L = none := by
                  cases q : F3 L with
                  | none => rfl
                  | some u =>
                    rcases st3.nw L fl (by rw [q]; exact fun z => nomatch z) with z | z
                    · rw [hl] at z; cases z
                    · exact (bl z).elim
                have bl3 : L ∉ B3 := fun q => by
                  rcases st3.bn L q with z | z
                  · exact bl z
                  · rw [hl] at z; cases z
                cases b with
                | false => exact ⟨m, Nat.lt_succ_self m, F3, B3, o1', accv, acc, r, o'', stt, ss3, hl3, st3.isL il, fl3, bl3, Nat.le_succ_of_le hi, hk, ck⟩
                | true =>
                  refine ⟨F3, B3, ρ1, o1', stt.fh, ss3, n'.step st3, ?_⟩
                  simp only at hk
                  cases hy2 : te ρ1 o1' with
                  | bad => rw [hy2] at hk; cases hk
                  | exc y z => rw [hy2] at hk; cases hk
                  | ok y o2 =>
                    rw [hy2] at hk
                    simp only at hk
                    by_cases hi1 : i < 100000
                    · rw [if_pos hi1] at hk
                      cases hr : loopC src p tt te (wipeE ρ vs) m (i + 1) o2 with
                      | bad => rw [hr] at hk; cases hk
                      | exc y z => rw [hr] at hk; cases hk
                      | ok r' o3 =>
                        rw [hr] at hk
                        cases hk
                        intro F4 H4 B4 v4 st4 ss4 i4
                        have hl4 : H4 L = some (.lst accv) := st4.kp L _ hl3 bl3
                        have fl4 : F4 L = none := by
                          cases q : F4 L with
                          | none => rfl
                          | some u =>
                            rcases st4.nw L fl3 (by rw [q]; exact fun z => nomatch z) with z | z
                            · rw [hl3] at z; cases z
                            · exact (bl3 z).elim
                        have bl4 : L ∉ B4 := fun q => by
                          rcases st4.bn L q with z | z
                          · exact bl3 z
                          · rw [hl3] at z; cases z
                        have il4 : IsL K F4 B4 accv acc := (st3.trans st4).isL il
                        refine ⟨accv, hl4, Nat.lt_of_le_of_lt (m := 99999) (by rw [il4.length]; omega) (by decide), m, Nat.lt_succ_self m, F4, B4, o2, accv ++ [v4], acc ++ [y], r', _, ?_, ss4.ownw bl4, upd_same, il4.append (.cons i4 .nil), fl4, bl4, ?_, hr, ?_⟩
                        · exact (stt.trans st4).ownw hL fl4 bl4
                        · rw [List.length_append]; exact Nat.succ_le_succ hi
                        · rw [List.append_assoc]; exact ck
                    · rw [if_neg hi1] at hk; cases hk
theorem fin_v {K : PySem.W.Frag} {F1 H1 : Hp} {B1 : List Addr} {Q : VK} {F' H' : Hp} {B' : List Addr} {o' : Om} {L : Addr} {accv : List V} {acc : List D} (st : Step F1 H1 B1 F' H' B') (ss : Store K C F' B' H' o') (h1 : H1 L = none) (h2 : H' L = some (.lst accv)) (il : IsL K F' B' accv acc) (fl : F' L = none) (bl : L ∉ B')
    (c : Con K C (Is K) E F1 H1 B1 Q (.ok (.lst acc) o')) : Q (.ref L) H' :=
  c _ _ _ _ (st.learn h1 fl h2) (ss.learn fl bl) (.lst upd_same (il.mono (sub_upd fl) fun _ _ h => h))
theorem fin_h {K : PySem.W.Frag} {F1 H1 : Hp} {B1 : List Addr} {Q : VK} {F' H' : Hp} {B' : List Addr} {o' : Om} {L : Addr} {accv : List V} {acc : List D} (st : Step F1 H1 B1 F' H' B') (ss : Store K C F' B' H' o') (h1 : H1 L = none) (h2 : H' L = some (.lst accv)) (il : IsL K F' B' accv acc) (fl : F' L = none) (bl : L ∉ B')
    (c : Con K C (Is K) E F1 H1 B1 Q (.ok (.obj o'.length) (o' ++ [.ml acc]))) : Q (.ref L) H' := by
  have mn : ∀ (n : Nat) (x : Addr), B'[n]? = some x → (B' ++ [L])[n]? = some x := fun n x h => by
    rw [List.getElem?_append_left (List.getElem?_eq_some_iff.mp h).1]; exact h
  refine c F' H' (B' ++ [L]) _ (st.take h1) (ss.take bl (by rw [h2]; exact fun z => nomatch z) ⟨fl, accv, h2, il.mono (Sub.refl _) mn⟩) (.obj ?_)
  rw [← ss.len]; exact getlast _ _
variable {elt iter : Expr} {ifs : List Expr} {scope : Scope} {own : List (Str × Nat)} {fi : DI} {p : Pat} {tt : DB} {te : DE}
theorem eLc (hc : X.calm = true) (hN : X.N.Nodup) (hi : EI X C E tg iter fi) (ok : BlkOk X.N X.env.scope scope own) (hp : ∀ j ∈ p.sl, j ∈ own.map (·.2))
    (hg : ∀ (s : Shared) (H : Hp) (C' : Addr) (cl : List (Str × Addr)) (fp : List Addr), EG (X.blk s H scope (compEnvC scope cl C' X.env) fp) C tg p)
    (ht : ∀ (s : Shared) (H : Hp) (C' : Addr) (cl : List (Str × Addr)) (fp : List Addr), ETs (X.blk s H scope (compEnvC scope cl C' X.env) fp) C E0 ifs tt)
    (he : ∀ (s : Shared) (H : Hp) (C' : Addr) (cl : List (Str × Addr)) (fp : List Addr), EX (X.blk s H scope (compEnvC scope cl C' X.env) fp) C E0 elt te) (hs : ∀ x, foldedSetIterable iter X.env x = pure x := by intro _; rfl) :
    EX X C E (.ListComp elt [⟨tg, iter, ifs, 0⟩] scope pos) (dLc fi p tt te (own.map (·.2))) :=
  PE.imp (pe_lc hc hN hi ok hg ht he hs) fun σ H Q ⟨F, B, ρ, o, e, s, n, c⟩ => lc_run hp e s n c fun F1 H1 B1 F' H' B' o' L accv acc st ss h1 h2 il fl bl c' => fin_v st ss h1 h2 il fl bl c'
theorem eLcH (hc : X.calm = true) (hN : X.N.Nodup) (hi : EI X C E tg iter fi) (ok : BlkOk X.N X.env.scope scope own) (hp : ∀ j ∈ p.sl, j ∈ own.map (·.2))
    (hg : ∀ (s : Shared) (H : Hp) (C' : Addr) (cl : List (Str × Addr)) (fp : List Addr), EG (X.blk s H scope (compEnvC scope cl C' X.env) fp) C tg p)
    (ht : ∀ (s : Shared) (H : Hp) (C' : Addr) (cl : List (Str × Addr)) (fp : List Addr), ETs (X.blk s H scope (compEnvC scope cl C' X.env) fp) C E0 ifs tt)
    (he : ∀ (s : Shared) (H : Hp) (C' : Addr) (cl : List (Str × Addr)) (fp : List Addr), EX (X.blk s H scope (compEnvC scope cl C' X.env) fp) C E0 elt te) (hs : ∀ x, foldedSetIterable iter X.env x = pure x := by intro _; rfl) :
    EX X C E (.ListComp elt [⟨tg, iter, ifs, 0⟩] scope pos) (dLcH fi p tt te (own.map (·.2))) :=
  PE.imp (pe_lc hc hN hi ok hg ht he hs) fun σ H Q ⟨F, B, ρ, o, e, s, n, c⟩ => lc_run hp e s n c fun F1 H1 B1 F' H' B' o' L accv acc st ss h1 h2 il fl bl c' => fin_h st ss h1 h2 il fl bl c'
end
end KR
set_option Elab.async false
set_option linter.all false
set_option maxRecDepth 100000
set_option maxHeartbeats 2000000
namespace KR
open PySem L2
/-! ### statements -/
inductive RS where
  | nx (ρ : Rho) (o : Om) | rt (d : D) (o : Om) | bk (ρ : Rho) (o : Om) | ct (ρ : Rho) (o : Om) | exc (x : Xc) (o : Om) | bad
abbrev DS := Rho → Om → RS
def Res.bindS {α : Type} (r : Res α) (k : α → Om → RS) : RS := match r with
  | .ok a o => k a o
  | .exc x o => .exc x o
  | .bad => .bad
@[simp] theorem Res.bindS_ok {α : Type} (a : α) (o : Om) (k : α → Om → RS) : (Res.ok a o).bindS k = k a o := rfl
@[simp] theorem Res.bindS_exc {α : Type} (x : Xc) (o : Om) (k : α → Om → RS) : (Res.exc x o : Res α).bindS k = .exc x o := rfl
@[simp] theorem Res.bindS_bad {α : Type} (k : α → Om → RS) : (Res.bad : Res α).bindS k = .bad := rfl
def RS.then (r : RS) (k : DS) : RS := match r with
  | .nx ρ o => k ρ o
  | r => r
@[simp] theorem RS.then_nx (ρ : Rho) (o : Om) (k : DS) : (RS.nx ρ o).then k = k ρ o := rfl
@[simp] theorem RS.then_rt (d : D) (o : Om) (k : DS) : (RS.rt d o).then k = .rt d o := rfl
@[simp] theorem RS.then_bk (ρ : Rho) (o : Om) (k : DS) : (RS.bk ρ o).then k = .bk ρ o := rfl
@[simp] theorem RS.then_ct (ρ : Rho) (o : Om) (k : DS) : (RS.ct ρ o).then k = .ct ρ o := rfl
@[simp] theorem RS.then_exc (x : Xc) (o : Om) (k : DS) : (RS.exc x o).then k = .exc x o := rfl
@[simp] theorem RS.then_bad (k : DS) : RS.bad.then k = .bad := rfl
/-- a step of the program that may change what stands at A, too -/
structure StepS (A : Addr → Prop) (F H : Hp) (B : List Addr) (F' H' : Hp) (B' : List Addr) : Prop where
  ff : Sub F F'
  fh : Sub F' H'
  bb : ∃ t, B' = B ++ t
  kp : ∀ a o, H a = some o → a ∉ B → ¬ A a → H' a = some o
  th : ∀ a, H' a = none → H a = none
  nw : ∀ a, F a = none → F' a ≠ none → H a = none ∨ a ∈ B ∨ A a
  bn : ∀ a, a ∈ B' → a ∈ B ∨ H a = none ∨ A a
theorem StepS.of {A : Addr → Prop} {F H F' H' : Hp} {B B' : List Addr} (s : Step F H B F' H' B') : StepS A F H B F' H' B' :=
  ⟨s.ff, s.fh, s.bb, fun a o h n _ => s.kp a o h n, s.th, fun a h n => by rcases s.nw a h n with z | z <;> simp [z], fun a h => by rcases s.bn a h with z | z <;> simp [z]⟩
theorem StepS.bm {A : Addr → Prop} {F H F' H' : Hp} {B B' : List Addr} (s : StepS A F H B F' H' B') (n : Nat) (a : Addr) (h : B[n]? = some a) : B'[n]? = some a := by
  obtain ⟨t, rfl⟩ := s.bb
  rw [List.getElem?_append_left (List.getElem?_eq_some_iff.mp h).1]; exact h
theorem StepS.step {F H F' H' : Hp} {B B' : List Addr} (s : StepS (fun _ => False) F H B F' H' B') : Step F H B F' H' B' :=
  ⟨s.ff, s.fh, s.bb, fun a o h n => s.kp a o h n id, s.th, fun a h n => by rcases s.nw a h n with z | z | z; exact .inl z; exact .inr z; exact z.elim, fun a h => by rcases s.bn a h with z | z | z; exact .inl z; exact .inr z; exact z.elim⟩
theorem StepS.trans {A A1 : Addr → Prop} {F H F1 H1 F2 H2 : Hp} {B B1 B2 : List Addr} (a : StepS A F H B F1 H1 B1) (b : StepS A1 F1 H1 B1 F2 H2 B2) (w : ∀ x, A1 x → A x ∨ H x = none) : StepS A F H B F2 H2 B2 := by
  refine ⟨a.ff.trans b.ff, b.fh, ?_, fun x u h n na => ?_, fun x h => a.th x (b.th x h), fun x h n => ?_, fun x h => ?_⟩
  · obtain ⟨t, rfl⟩ := a.bb
    obtain ⟨u, rfl⟩ := b.bb
    exact ⟨t ++ u, by rw [List.append_assoc]⟩
  · refine b.kp x u (a.kp x u h n na) (fun q => ?_) fun q => ?_
    · rcases a.bn x q with z | z | z
      · exact n z
      · rw [h] at z; cases z
      · exact na z
    · rcases w x q with z | z
      · exact na z
      · rw [h] at z; cases z
  · cases e : F1 x with
    | none =>
      rcases b.nw x e n with z | z | z
      · exact .inl (a.th x z)
      · rcases a.bn x z with y | y | y <;> simp [y]
      · rcases w x z with y | y <;> simp [y]
    | some u => exact a.nw x h (by rw [e]; exact fun z => nomatch z)
  · rcases b.bn x h with z | z | z
    · exact a.bn x z
    · exact .inr (.inl (a.th x z))
    · rcases w x z with y | y <;> simp [y]
def ConS (K : PySem.W.Frag) (C : Addr) (E : XK) (A : Addr → Prop) (F H : Hp) (B : List Addr) (Z : Ends) : RS → Prop
  | .nx ρ o => ∀ F' H' B' σ', StepS A F H B F' H' B' → Store K C F' B' H' o → EnvOk K F' B' H' σ' ρ → (∀ a, OwnOf σ' ρ a → A a ∨ H a = none) → Z.nx σ' H'
  | .rt d o => ∀ F' H' B' v, StepS A F H B F' H' B' → Store K C F' B' H' o → Is K F' B' v d → Z.rt v H'
  | .bk ρ o => ∀ F' H' B' σ', StepS A F H B F' H' B' → Store K C F' B' H' o → EnvOk K F' B' H' σ' ρ → (∀ a, OwnOf σ' ρ a → A a ∨ H a = none) → Z.bk σ' H'
  | .ct ρ o => ∀ F' H' B' σ', StepS A F H B F' H' B' → Store K C F' B' H' o → EnvOk K F' B' H' σ' ρ → (∀ a, OwnOf σ' ρ a → A a ∨ H a = none) → Z.ct σ' H'
  | .exc x o => ∀ F' H' B' cls d, StepS A F H B F' H' B' → Store K C F' B' H' o → XAt K F' x cls d → E cls d H'
  | .bad => False
def tS (K : PySem.W.Frag) (C : Addr) (E : XK) (f : DS) : TS := fun Z σ H => ∃ F B ρ o, Sub F H ∧ Store K C F B H o ∧ EnvOk K F B H σ ρ ∧ ConS K C E (OwnOf σ ρ) F H B Z (f ρ o)
abbrev ES (X : Cx) (C : Addr) (E : XK) (st : Stmt) (f : DS) : Prop := PS X st (tS X.K C E f)
abbrev ESs (X : Cx) (C : Addr) (E : XK) (sts : List Stmt) (f : DS) : Prop := PSs X sts (tS X.K C E f)
def dSkip : DS := fun ρ o => .nx ρ o
def dSeq (f g : DS) : DS := fun ρ o => (f ρ o).then g
def dDrop (f : DE) : DS := fun ρ o => (f ρ o).bindS fun _ o1 => .nx ρ o1
def dRet (f : DE) : DS := fun ρ o => (f ρ o).bindS fun x o1 => .rt x o1
def dRetN : DS := fun _ o => .rt .non o
def dIfS (t : DB) (f g : DS) : DS := fun ρ o => (t ρ o).bindS fun x o1 => if x = true then f ρ o1 else g ρ o1
def dAsg (f : DE) (p : Pat) : DS := fun ρ o => (f ρ o).bindS fun x o1 => match p.f x ρ with
  | some ρ1 => .nx ρ1 o1
  | none => .bad
def dPar (i j : Nat) (f g : DE) : DS := fun ρ o => (f ρ o).bindS fun x o1 => (g ρ o1).bindS fun y o2 => .nx ((ρ.set i (.d x)).set j (.d y)) o2
def dPar3 (i j l : Nat) (f g h : DE) : DS := fun ρ o => (f ρ o).bindS fun x o1 => (g ρ o1).bindS fun y o2 => (h ρ o2).bindS fun z o3 => .nx (((ρ.set i (.d x)).set j (.d y)).set l (.d z)) o3
/-- a list of one's own begins -/
def dOwn (i : Nat) (f : DA) : DS := fun ρ o => (f ρ o).bindS fun xs o1 => if xs.length ≤ 1000 then .nx (ρ.set i (.own xs)) o1 else .bad
def dApp (i : Nat) (f : DE) : DS := fun ρ o => match ρ[i]? with
  | some (.own xs) => (f ρ o).bindS fun x o1 => if xs.length < 100000 then .nx (ρ.set i (.own (xs ++ [x]))) o1 else .bad
  | _ => .bad
def dExt (i : Nat) (f : DE) : DS := fun ρ o => match ρ[i]? with
  | some (.own xs) => (f ρ o).bindS fun x o1 => match lv o1 x with
    | some ys => if xs.length + ys.length ≤ 1000000 then .nx (ρ.set i (.own (xs ++ ys))) o1 else .bad
    | none => .bad
  | _ => .bad
/-- one's own list is given away: it doesn't change any more -/
def dFz (i : Nat) : DS := fun ρ o => match ρ[i]? with
  | some (.own xs) => .nx (ρ.set i (.d (.lst xs))) o
  | _ => .bad
/-- o[i] = e, o behind a handle -/
def hv (o : Om) : D → Option (Nat × List D)
  | .obj n => match o[n]? with
    | some (.ml xs) => some (n, xs)
    | _ => none
  | _ => none
def setD (xs : List D) (i : Int) (v : D) : Option (List D) := (ixN xs.length i).map fun j => xs.set j v
def dSetI (g h f : DE) : DS := fun ρ o => (f ρ o).bindS fun v o1 => (g ρ o1).bindS fun x o2 => (h ρ o2).bindS fun i o3 => match hv o3 x, i with
  | some (n, xs), .int k => match setD xs k v with
    | some ys => .nx ρ (o3.set n (.ml ys))
    | none => .bad
  | _, _ => .bad
def putD (f : Str) (v : D) : List (Str × D) → List (Str × D)
  | [] => [(f, v)]
  | (g, x) :: r => if g = f then (g, v) :: r else (g, x) :: putD f v r
def dSetF (m : Str) (g f : DE) : DS := fun ρ o => (f ρ o).bindS fun v o1 => (g ρ o1).bindS fun x o2 => match fv o2 x with
  | some (n, fs) => if fs.length < 100 then .nx ρ (o2.set n (.ins (putD m v fs))) else .bad
  | none => .bad
/-- a method of a list behind a handle: what it leaves, what it tells -/
def dBM (op : List D → List D → Option (List D × D)) (g : DE) (f : DA) : DE := fun ρ o => (g ρ o).bind fun x o1 => if (hv o1 x).isSome = true then ((f ρ o1).bind fun vs o2 => match hv o2 x with
  | some (n, xs) => match op xs vs with
    | some (ys, z) => .ok z (o2.set n (.ml ys))
    | none => .bad
  | none => .bad) else .bad
def loopF (src : Src) (p : Pat) (b : DS) : Nat → Nat → Rho → Om → RS
  | 0, _, _, _ => .bad
  | k + 1, i, ρ, o => match nxt o src i with
    | none => .bad
    | some none => .nx ρ o
    | some (some x) => match p.f x ρ with
      | none => .bad
      | some ρ1 => match b ρ1 o with
        | .nx ρ2 o2 => loopF src p b k (i + 1) ρ2 o2
        | .ct ρ2 o2 => loopF src p b k (i + 1) ρ2 o2
        | .bk ρ2 o2 => .nx ρ2 o2
        | r => r
def dFor (fi : DI) (p : Pat) (b : DS) : DS := fun ρ o => (fi ρ o).bindS fun src o1 => loopF src p b (srcN o1 src + 1) 0 ρ o1
def loopW (t : DB) (b : DS) : Nat → DS
  | 0, _, _ => .bad
  | k + 1, ρ, o => (t ρ o).bindS fun x o1 => if x = true then (match b ρ o1 with
    | .nx ρ2 o2 => loopW t b k ρ2 o2
    | .ct ρ2 o2 => loopW t b k ρ2 o2
    | .bk ρ2 o2 => .nx ρ2 o2
    | r => r) else .nx ρ o1
section
variable {X : Cx} {C : Addr} {E : XK} {a b c tg : Expr} {f g h : DE} {fa : DA} {tf : DB} {pos : Pos} {st : Stmt} {sts : List Stmt} {s1 s2 : DS}
variable {K : PySem.W.Frag} {F F' H H' : Hp} {B B' : List Addr} {o o' : Om} {σ σ' : L2.St} {ρ ρ' : Rho}
variable {A A1 : Addr → Prop}
theorem ConS.stepS {Z : Ends} {r : RS} (h : ConS K C E A F H B Z r) (s : StepS A F H B F' H' B') (w : ∀ x, A1 x → A x ∨ H x = none) : ConS K C E A1 F' H' B' Z r := by
  have w2 : ∀ {a : Addr}, (A1 a ∨ H' a = none) → A a ∨ H a = none := fun q => by
    rcases q with q | q
    · exact w _ q
    · exact .inr (s.th _ q)
  cases r with
  | nx ρ o => exact fun F1 H1 B1 v s1 st n q => h F1 H1 B1 v (s.trans s1 w) st n fun a x => w2 (q a x)
  | rt ρ o => exact fun F1 H1 B1 v s1 => h F1 H1 B1 v (s.trans s1 w)
  | bk ρ o => exact fun F1 H1 B1 v s1 st n q => h F1 H1 B1 v (s.trans s1 w) st n fun a x => w2 (q a x)
  | ct ρ o => exact fun F1 H1 B1 v s1 st n q => h F1 H1 B1 v (s.trans s1 w) st n fun a x => w2 (q a x)
  | exc x o => exact fun F1 H1 B1 c d s1 => h F1 H1 B1 c d (s.trans s1 w)
  | bad => exact h
theorem ConS.step {Z : Ends} {r : RS} (h : ConS K C E A F H B Z r) (s : Step F H B F' H' B') : ConS K C E A F' H' B' Z r := h.stepS (.of s) fun _ q => .inl q
theorem ConS.then {α γ : Type} {rel : Hp → List Addr → γ → α → Prop} {Z : Ends} {Q1 : γ → Hp → Prop} {r : Res α} {k : α → Om → RS} (h : ConS K C E A F H B Z (r.bindS k))
    (hk : ∀ x o1 F1 H1 B1 v, Step F H B F1 H1 B1 → Store K C F1 B1 H1 o1 → rel F1 B1 v x → ConS K C E A F1 H1 B1 Z (k x o1) → Q1 v H1) : Con K C rel E F H B Q1 r := by
  cases r with
  | ok x o => exact fun F1 H1 B1 v s1 st r1 => hk x o F1 H1 B1 v s1 st r1 (ConS.step h s1)
  | exc x o => exact fun F1 H1 B1 c d s1 => h F1 H1 B1 c d (.of s1)
  | bad => exact h
/-- what follows, reached -/
theorem ConS.go {Z : Ends} (h : ConS K C E A F H B Z (.nx ρ o)) (e : Sub F H) (s : Store K C F B H o) (n : EnvOk K F B H σ ρ) (w : ∀ a, OwnOf σ ρ a → A a) : Z.nx σ H :=
  h F H B σ (.of (Step.refl e)) s n fun a q => .inl (w a q)
/-- one statement, then another -/
theorem ConS.seq {Z : Ends} {r : RS} {k : DS} (h : ConS K C E A F H B Z (r.then k)) : ConS K C E A F H B { Z with nx := tS K C E k Z } r := by
  cases r with
  | nx ρ o => exact fun F1 H1 B1 σ1 s1 st n q => ⟨F1, B1, ρ, o, s1.fh, st, n, ConS.stepS h s1 q⟩
  | rt ρ o => exact h
  | bk ρ o => exact h
  | ct ρ o => exact h
  | exc x o => exact h
  | bad => exact h
theorem sNil : ESs X C E [] dSkip := PSs.imp pss_nil fun Z σ H ⟨F, B, ρ, o, e, s, n, c⟩ => c.go e s n fun _ h => h
theorem sCons (h1 : ES X C E st s1) (h2 : ESs X C E sts s2) : ESs X C E (st :: sts) (dSeq s1 s2) := PSs.imp (pss_cons h1 h2) fun Z σ H ⟨F, B, ρ, o, e, s, n, c⟩ => ⟨F, B, ρ, o, e, s, n, ConS.seq c⟩
theorem sOne (h1 : ES X C E st s1) : ESs X C E [st] s1 := pss_one h1
theorem sExpr (he : EX X C E a f) (hs : swapsWith a none pos.line X.env = pure false := by rfl) : ES X C E (.Expr a pos) (dDrop f) :=
  PS.imp (ps_expr he hs) fun Z σ H ⟨F, B, ρ, o, e, s, n, c⟩ => ⟨F, B, ρ, o, e, s, n, ConS.then c fun x o1 F1 H1 B1 v st1 s1 i1 c1 => c1.go st1.fh s1 (n.step st1) fun _ h => h⟩
theorem sRet (he : EX X C E a f) : ES X C E (.Return (some a) pos) (dRet f) :=
  PS.imp (ps_ret he) fun Z σ H ⟨F, B, ρ, o, e, s, n, c⟩ => ⟨F, B, ρ, o, e, s, n, ConS.then c fun x o1 F1 H1 B1 v st1 s1 i1 c1 => c1 F1 H1 B1 v (.of (Step.refl st1.fh)) s1 i1⟩
theorem sIf {x y : List Stmt} (ht : ET X C E c tf) (h1 : ESs X C E x s1) (h2 : ESs X C E y s2) : ES X C E (.If c x y pos) (dIfS tf s1 s2) :=
  PS.imp (ps_if ht h1 h2) fun Z σ H ⟨F, B, ρ, o, e, s, n, c⟩ => ⟨F, B, ρ, o, e, s, n, ConS.then c fun x o1 F1 H1 B1 v st1 s1 i1 c1 => by
    cases i1
    cases x with
    | true => exact ⟨F1, B1, ρ, o1, st1.fh, s1, n.step st1, c1⟩
    | false => exact ⟨F1, B1, ρ, o1, st1.fh, s1, n.step st1, c1⟩⟩
/-- target = value -/
theorem asg_of {p : Pat} {Z : Ends} (e : Sub F H) (s : Store K C F B H o) (n : EnvOk K F B H σ ρ) (c : ConS K C E (OwnOf σ ρ) F H B Z (dAsg f p ρ o)) : tAsg (tE K C E f) (tG K C (Is K) p.f p.sl) Z σ H :=
  ⟨F, B, ρ, o, e, s, n, ConS.then c fun x o1 F1 H1 B1 v st1 s1 i1 c1 => by
    cases q : p.f x ρ with
    | none => rw [q] at c1; exact c1.elim
    | some ρ1 =>
      rw [q] at c1
      exact ⟨F1, B1, o1, ρ, x, ρ1, st1.fh, s1, n.step st1, i1, q, fun σ' n' _ w' => c1.go st1.fh s1 n' w'⟩⟩
theorem sAsg {p : Pat} (he : EX X C E a f) (hg : EG X C tg p) (hs : swapsWithSole [tg] a pos.line X.env = pure false := by rfl) (hw : swappedStores [tg] a X.env = pure none := by rfl) (h1 : (assignEach [tg] X.env).map (·.2) = [assign tg X.env] := by rfl) : ES X C E (.Assign [tg] a pos) (dAsg f p) :=
  PS.imp (ps_asg he hg hs hw h1) fun Z σ H ⟨F, B, ρ, o, e, s, n, c⟩ => asg_of e s n c
/-- name = value -/
theorem sSet (i : Nat) {x : Str} {p' : Pos} (hN : X.N.Nodup) (he : EX X C E a f) (hi : X.N[i]? = some x := by rfl) (hx : Loc X.env.scope x := by first | exact Or.inl rfl | exact Or.inr rfl) (hs : swapsWith a (some (.Name x p')) pos.line X.env = pure false := by rfl)
    (hf : X.fn x = true ∨ X.env.scope.names.lookup x = some .local := by first | exact .inl rfl | exact .inr rfl) : ES X C E (.Assign [.Name x p'] a pos) (dAsg f (pNm i)) := by
  refine PS.imp (ps_set hN hi hx he hs hf) fun Z σ H ⟨F, B, ρ, o, e, s, n, c⟩ => ⟨F, B, ρ, o, e, s, n, ConS.then c fun x o1 F1 H1 B1 v st1 s1 i1 c1 => ?_⟩
  exact c1.go st1.fh s1 ((n.step st1).setd i1) fun _ h => h.setd
/-- name = [.. for ..], on one line, the name a local -/
theorem sSetLc (i : Nat) {y : Str} {py : Pos} {elt iter : Expr} {ifs : List Expr} {scope : Scope} {own : List (Str × Nat)} {spos : Pos} {fi : DI} {p : Pat} {tt : DB} {te : DE} (hc : X.calm = true) (hN : X.N.Nodup) (hi : EI X C E tg iter fi) (ok : BlkOk X.N X.env.scope scope own) (hp : ∀ j ∈ p.sl, j ∈ own.map (·.2))
    (hg : ∀ (s : Shared) (H : Hp) (C' : Addr) (cl : List (Str × Addr)) (fp : List Addr), EG (X.blk s H scope (compEnvC scope cl C' X.env) fp) C tg p)
    (ht : ∀ (s : Shared) (H : Hp) (C' : Addr) (cl : List (Str × Addr)) (fp : List Addr), ETs (X.blk s H scope (compEnvC scope cl C' X.env) fp) C E0 ifs tt)
    (he : ∀ (s : Shared) (H : Hp) (C' : Addr) (cl : List (Str × Addr)) (fp : List Addr), EX (X.blk s H scope (compEnvC scope cl C' X.env) fp) C E0 elt te)
    (hsw : swapsWith (.ListComp elt [⟨tg, iter, ifs, 0⟩] scope pos) (some (.Name y py)) spos.line X.env = pure true)
    (hy : X.N[i]? = some y := by rfl) (hyl : X.env.scope.names.lookup y = some .local := by rfl) (hs : ∀ x, foldedSetIterable iter X.env x = pure x := by intro _; rfl) :
    ES X C E (.Assign [.Name y py] (.ListComp elt [⟨tg, iter, ifs, 0⟩] scope pos) spos) (dAsg (dLc fi p tt te (own.map (·.2))) (pNm i)) :=
  PS.imp (ps_setLc hc hN hy hyl hsw hi ok hg ht he hs) fun Z σ H ⟨F, B, ρ, o, e, s, n, c⟩ => by
    have c0 : Con X.K C (Is X.K) E F H B (fun x H1 => gName i x σ H1 Z.nx) (dLc fi p tt te (own.map (·.2)) ρ o) :=
      ConS.then c fun x o1 F1 H1 B1 v st1 s1 i1 c1 => c1.go st1.fh s1 ((n.step st1).setd i1) fun _ h => h.setd
    exact lc_run hp e s n c0 fun F1 H1 B1 F' H' B' o' L accv acc st ss h1 h2 il fl bl c' => fin_v st ss h1 h2 il fl bl c'
theorem sSetLcH (i : Nat) {y : Str} {py : Pos} {elt iter : Expr} {ifs : List Expr} {scope : Scope} {own : List (Str × Nat)} {spos : Pos} {fi : DI} {p : Pat} {tt : DB} {te : DE} (hc : X.calm = true) (hN : X.N.Nodup) (hi : EI X C E tg iter fi) (ok : BlkOk X.N X.env.scope scope own) (hp : ∀ j ∈ p.sl, j ∈ own.map (·.2))
    (hg : ∀ (s : Shared) (H : Hp) (C' : Addr) (cl : List (Str × Addr)) (fp : List Addr), EG (X.blk s H scope (compEnvC scope cl C' X.env) fp) C tg p)
    (ht : ∀ (s : Shared) (H : Hp) (C' : Addr) (cl : List (Str × Addr)) (fp : List Addr), ETs (X.blk s H scope (compEnvC scope cl C' X.env) fp) C E0 ifs tt)
    (he : ∀ (s : Shared) (H : Hp) (C' : Addr) (cl : List (Str × Addr)) (fp : List Addr), EX (X.blk s H scope (compEnvC scope cl C' X.env) fp) C E0 elt te)
    (hsw : swapsWith (.ListComp elt [⟨tg, iter, ifs, 0⟩] scope pos) (some (.Name y py)) spos.line X.env = pure true)
    (hy : X.N[i]? = some y := by rfl) (hyl : X.env.scope.names.lookup y = some .local := by rfl) (hs : ∀ x, foldedSetIterable iter X.env x = pure x := by intro _; rfl) :
    ES X C E (.Assign [.Name y py] (.ListComp elt [⟨tg, iter, ifs, 0⟩] scope pos) spos) (dAsg (dLcH fi p tt te (own.map (·.2))) (pNm i)) :=
  PS.imp (ps_setLc hc hN hy hyl hsw hi ok hg ht he hs) fun Z σ H ⟨F, B, ρ, o, e, s, n, c⟩ => by
    have c0 : Con X.K C (Is X.K) E F H B (fun x H1 => gName i x σ H1 Z.nx) (dLcH fi p tt te (own.map (·.2)) ρ o) :=
      ConS.then c fun x o1 F1 H1 B1 v st1 s1 i1 c1 => c1.go st1.fh s1 ((n.step st1).setd i1) fun _ h => h.setd
    exact lc_run hp e s n c0 fun F1 H1 B1 F' H' B' o' L accv acc st ss h1 h2 il fl bl c' => fin_h st ss h1 h2 il fl bl c'
theorem sPar {i j : Nat} {x y : Str} {px py pt : Pos} {kt k2 : Nat} {pt2 : Pos} (hc : X.calm = true) (hN : X.N.Nodup) (ha : EX X C E a f) (hb : EX X C E b g) (hi : X.N[i]? = some x := by rfl) (hj : X.N[j]? = some y := by rfl) (hij : i ≠ j := by decide)
    (hx : X.env.scope.names.lookup x = some .local := by rfl) (hy : X.env.scope.names.lookup y = some .local := by rfl) (hw : swappedStores [.Tuple [.Name x px, .Name y py] kt pt] (.Tuple [a, b] k2 pt2) X.env = pure (some [x, y]) := by rfl)
    (hs : swapsWithSole [.Tuple [.Name x px, .Name y py] kt pt] (.Tuple [a, b] k2 pt2) pos.line X.env = pure false := by rfl)
    (hs1 : starEach [a, b] X.env = (false, eval a X.env) :: starEach [b] X.env := by rfl) (hs2 : starEach [b] X.env = (false, eval b X.env) :: starEach [] X.env := by rfl) :
    ES X C E (.Assign [.Tuple [.Name x px, .Name y py] kt pt] (.Tuple [a, b] k2 pt2) pos) (dPar i j f g) :=
  PS.imp (ps_par hc hN hi hj hij hx hy (pa_cons ha (pa_cons hb pa_nil hs2) hs1) hw hs) fun Z σ H ⟨F, B, ρ, o, e, s, n, c⟩ => by
    refine ⟨F, B, ρ, o, e, s, n, ConS.then c fun x o1 F1 H1 B1 v st1 s1 i1 c1 => ⟨F1, B1, ρ, o1, st1.fh, s1, n.step st1, ConS.then c1 fun y o2 F2 H2 B2 u st2 s2 i2 c2 => ⟨v, u, rfl, ?_⟩⟩⟩
    exact c2.go st2.fh s2 ((((n.step st1).step st2).setd (st2.is i1)).setd i2) fun _ h => h.setd.setd
theorem sPar3 {i j l : Nat} {x y z : Str} {px py pz pt : Pos} {kt k2 : Nat} {pt2 : Pos} (hc : X.calm = true) (hN : X.N.Nodup) (ha : EX X C E a f) (hb : EX X C E b g) (hd : EX X C E c h) (hi : X.N[i]? = some x := by rfl) (hj : X.N[j]? = some y := by rfl) (hl : X.N[l]? = some z := by rfl) (hij : i ≠ j := by decide) (hil : i ≠ l := by decide) (hjl : j ≠ l := by decide)
    (hx : X.env.scope.names.lookup x = some .local := by rfl) (hy : X.env.scope.names.lookup y = some .local := by rfl) (hz : X.env.scope.names.lookup z = some .local := by rfl) (hw : swappedStores [.Tuple [.Name x px, .Name y py, .Name z pz] kt pt] (.Tuple [a, b, c] k2 pt2) X.env = pure (some [x, y, z]) := by rfl)
    (hs : swapsWithSole [.Tuple [.Name x px, .Name y py, .Name z pz] kt pt] (.Tuple [a, b, c] k2 pt2) pos.line X.env = pure false := by rfl)
    (hs1 : starEach [a, b, c] X.env = (false, eval a X.env) :: starEach [b, c] X.env := by rfl) (hs2 : starEach [b, c] X.env = (false, eval b X.env) :: starEach [c] X.env := by rfl) (hs3 : starEach [c] X.env = (false, eval c X.env) :: starEach [] X.env := by rfl) :
    ES X C E (.Assign [.Tuple [.Name x px, .Name y py, .Name z pz] kt pt] (.Tuple [a, b, c] k2 pt2) pos) (dPar3 i j l f g h) :=
  PS.imp (ps_par3 hc hN hi hj hl hij hil hjl hx hy hz (pa_cons ha (pa_cons hb (pa_cons hd pa_nil hs3) hs2) hs1) hw hs) fun Z σ H ⟨F, B, ρ, o, e, s, n, c⟩ => by
    refine ⟨F, B, ρ, o, e, s, n, ConS.then c fun x o1 F1 H1 B1 v st1 s1 i1 c1 => ⟨F1, B1, ρ, o1, st1.fh, s1, n.step st1, ConS.then c1 fun y o2 F2 H2 B2 u st2 s2 i2 c2 => ⟨F2, B2, ρ, o2, st2.fh, s2, (n.step st1).step st2, ConS.then c2 fun z o3 F3 H3 B3 w st3 s3 i3 c3 => ⟨v, u, w, rfl, ?_⟩⟩⟩⟩
    exact c3.go st3.fh s3 (((((n.step st1).step st2).step st3).setd ((st2.trans st3).is i1) |>.setd (st3.is i2)).setd i3) fun _ h => h.setd.setd.setd
end
end KR
set_option Elab.async false
set_option linter.all false
set_option maxRecDepth 100000
set_option maxHeartbeats 2000000
namespace KR
open PySem L2
section
variable {X : Cx} {C : Addr} {E : XK} {a b c tg : Expr} {f g h : DE} {fa : DA} {tf : DB} {pos : Pos} {st : Stmt} {sts : List Stmt} {s1 s2 : DS}
variable {K : PySem.W.Frag} {F F' H H' : Hp} {B B' : List Addr} {o o' : Om} {σ σ' : L2.St} {ρ ρ' : Rho} {A A1 : Addr → Prop}
theorem own_or {A : Addr → Prop} {H : Hp} (h : ∀ a, OwnOf σ ρ a → A a ∨ H a = none) : ∀ a, OwnOf σ ρ a → A a ∨ H a = none := h
/-- for tg in iter: body -/
theorem sFor {iter : Expr} {body : List Stmt} {fi : DI} {p : Pat} {bd : DS} (hp : PassesOwn (model X.prog X.w) X.A X.env X.xe) (hc : X.calm = true) (hi : EI X C E tg iter fi) (hg : EG X C tg p) (hb : ESs X C E body bd) (hs : ∀ x, foldedSetIterable iter X.env x = pure x := by intro _; rfl) :
    ES X C E (.For tg iter body [] pos) (dFor fi p bd) :=
  PS.imp (ps_for hp hc hi hg hb hs) fun Z σ H ⟨F, B, ρ, o, e, s, n, c⟩ => ⟨F, B, ρ, o, e, s, n, ConS.then c fun src o1 F1 H1 B1 J st1 ss1 j1 c1 => by
    have n1 := n.step st1
    refine ⟨fun i m σ' H' => ∃ F' B' ρ' o', Sub F1 F' ∧ (∀ (n : Nat) (x : Addr), B1[n]? = some x → B'[n]? = some x) ∧ Sub F' H' ∧ Store X.K C F' B' H' o' ∧ EnvOk X.K F' B' H' σ' ρ' ∧ ConS X.K C E (OwnOf σ' ρ') F' H' B' Z (loopF src p bd m i ρ' o'), ⟨_, F1, B1, ρ, o1, Sub.refl _, fun _ _ h => h, st1.fh, ss1, n1, c1⟩, ?_⟩
    rintro i m σ' H' ⟨F', B', ρ', o', e1, e2, e3, ss, nn, ck⟩
    cases m with
    | zero => exact ck.elim
    | succ m =>
      unfold loopF at ck
      obtain ⟨j2, j3⟩ := j1 F' H' B' o' i e1 e2 e3 ss
      cases hx : nxt o' src i with
      | none => rw [hx] at ck; exact ck.elim
      | some z =>
        rw [hx] at ck
        cases z with
        | none => exact .inl ⟨j2 hx, ck.go e3 ss nn fun _ h => h⟩
        | some x =>
          simp only at ck
          obtain ⟨j4, j5⟩ := j3 x hx
          refine .inr ⟨j4, fun σ5 H5 => ∃ m', m' < m + 1 ∧ ∃ F' B' ρ' o', Sub F1 F' ∧ (∀ (n : Nat) (x : Addr), B1[n]? = some x → B'[n]? = some x) ∧ Sub F' H5 ∧ Store X.K C F' B' H5 o' ∧ EnvOk X.K F' B' H5 σ5 ρ' ∧ ConS X.K C E (OwnOf σ5 ρ') F' H5 B' Z (loopF src p bd m' (i + 1) ρ' o'), fun _ _ q => q, fun v H2 hy => ?_⟩
          obtain ⟨rfl, iv⟩ := j5 v H2 hy
          cases hp1 : p.f x ρ' with
          | none => rw [hp1] at ck; exact ck.elim
          | some ρ1 =>
            rw [hp1] at ck
            simp only at ck
            refine ⟨F', B', o', ρ', x, ρ1, e3, ss, nn, iv, hp1, fun σ1 n' _ w' => ⟨F', B', ρ1, o', e3, ss, n', ?_⟩⟩
            have nxt' : ∀ ρ2 o2, ConS X.K C E (OwnOf σ' ρ') F' H2 B' Z (loopF src p bd m (i + 1) ρ2 o2) → ∀ F3 H3 B3 σ3, StepS (OwnOf σ1 ρ1) F' H2 B' F3 H3 B3 → Store X.K C F3 B3 H3 o2 → EnvOk X.K F3 B3 H3 σ3 ρ2 → (∀ a, OwnOf σ3 ρ2 a → OwnOf σ1 ρ1 a ∨ H2 a = none) →
                ∃ m', m' < m + 1 ∧ ∃ F' B' ρ' o', Sub F1 F' ∧ (∀ (n : Nat) (x : Addr), B1[n]? = some x → B'[n]? = some x) ∧ Sub F' H3 ∧ Store X.K C F' B' H3 o' ∧ EnvOk X.K F' B' H3 σ3 ρ' ∧ ConS X.K C E (OwnOf σ3 ρ') F' H3 B' Z (loopF src p bd m' (i + 1) ρ' o') := by
              intro ρ2 o2 ck F3 H3 B3 σ3 st3 ss3 n3 w3
              have st3' : StepS (OwnOf σ' ρ') F' H2 B' F3 H3 B3 := StepS.trans (A1 := OwnOf σ1 ρ1) (.of (Step.refl e3)) st3 fun x q => .inl (w' x q)
              exact ⟨m, Nat.lt_succ_self m, F3, B3, ρ2, o2, e1.trans st3.ff, fun n x q => st3.bm n x (e2 n x q), st3.fh, ss3, n3, ck.stepS st3' fun x q => by
                rcases w3 x q with z | z
                · exact .inl (w' x z)
                · exact .inr z⟩
            have up : ∀ {r : RS}, ConS X.K C E (OwnOf σ' ρ') F' H2 B' Z r → ConS X.K C E (OwnOf σ1 ρ1) F' H2 B' Z r := fun h => h.stepS (.of (Step.refl e3)) fun x q => .inl (w' x q)
            cases hb : bd ρ1 o' with
            | nx ρ2 o2 => rw [hb] at ck; exact nxt' ρ2 o2 ck
            | ct ρ2 o2 => rw [hb] at ck; exact nxt' ρ2 o2 ck
            | bk ρ2 o2 => rw [hb] at ck; exact up ck
            | rt d o2 => rw [hb] at ck; exact up ck
            | exc y o2 => rw [hb] at ck; exact up ck
            | bad => rw [hb] at ck; exact ck.elim⟩
/-- while t: body; N turns at most -/
theorem sWhile (N : Nat) {body : List Stmt} {bd : DS} (hp : PassesOwn (model X.prog X.w) X.A X.env X.xe) (ht : ET X C E c tf) (hb : ESs X C E body bd) : ES X C E (.While c body [] pos) (loopW tf bd N) :=
  PS.imp (ps_while hp ht hb) fun Z σ H ⟨F, B, ρ, o, e, s, n, ck⟩ => by
    refine ⟨fun m σ' H' => ∃ F' B' ρ' o', Sub F' H' ∧ Store X.K C F' B' H' o' ∧ EnvOk X.K F' B' H' σ' ρ' ∧ ConS X.K C E (OwnOf σ' ρ') F' H' B' Z (loopW tf bd m ρ' o'), ⟨N, F, B, ρ, o, e, s, n, ck⟩, ?_⟩
    rintro m σ' H' ⟨F', B', ρ', o', e', ss, nn, ck⟩
    cases m with
    | zero => exact ck.elim
    | succ m =>
      unfold loopW at ck
      refine ⟨F', B', ρ', o', e', ss, nn, ConS.then ck fun x o1 F1 H1 B1 v st1 s1 i1 c1 => ?_⟩
      cases i1
      have n1 := nn.step st1
      cases x with
      | false => exact c1.go st1.fh s1 n1 fun _ h => h
      | true =>
        have c2 : ConS X.K C E (OwnOf σ' ρ') F1 H1 B1 Z (match bd ρ' o1 with
          | .nx ρ2 o2 => loopW tf bd m ρ2 o2
          | .ct ρ2 o2 => loopW tf bd m ρ2 o2
          | .bk ρ2 o2 => .nx ρ2 o2
          | r => r) := c1
        refine ⟨fun σ5 H5 => ∃ m', m' < m + 1 ∧ ∃ F' B' ρ' o', Sub F' H5 ∧ Store X.K C F' B' H5 o' ∧ EnvOk X.K F' B' H5 σ5 ρ' ∧ ConS X.K C E (OwnOf σ5 ρ') F' H5 B' Z (loopW tf bd m' ρ' o'), fun _ _ q => q, F1, B1, ρ', o1, st1.fh, s1, n1, ?_⟩
        cases hb : bd ρ' o1 with
        | nx ρ2 o2 => rw [hb] at c2; exact fun F3 H3 B3 σ3 st3 ss3 n3 w3 => ⟨m, Nat.lt_succ_self m, F3, B3, ρ2, o2, st3.fh, ss3, n3, ConS.stepS c2 st3 w3⟩
        | ct ρ2 o2 => rw [hb] at c2; exact fun F3 H3 B3 σ3 st3 ss3 n3 w3 => ⟨m, Nat.lt_succ_self m, F3, B3, ρ2, o2, st3.fh, ss3, n3, ConS.stepS c2 st3 w3⟩
        | bk ρ2 o2 => rw [hb] at c2; exact c2
        | rt d o2 => rw [hb] at c2; exact c2
        | exc y o2 => rw [hb] at c2; exact c2
        | bad => rw [hb] at c2; exact c2.elim
/-! ### lists of one's own -/
theorem sOwn (i : Nat) {x : Str} {p' lp : Pos} {es : List Expr} (hN : X.N.Nodup) (ha : EA X C E es fa) (hi : X.N[i]? = some x := by rfl) (hx : Loc X.env.scope x := by first | exact Or.inl rfl | exact Or.inr rfl) (hs : swapsWith (.List es lp) (some (.Name x p')) pos.line X.env = pure false := by rfl)
    (hf : X.fn x = true ∨ X.env.scope.names.lookup x = some .local := by first | exact .inl rfl | exact .inr rfl) : ES X C E (.Assign [.Name x p'] (.List es lp) pos) (dOwn i fa) := by
  refine PS.imp (ps_set hN hi hx (pe_lst ha) hs hf) fun Z σ H ⟨F, B, ρ, o, e, s, n, c⟩ => ⟨F, B, ρ, o, e, s, n, ConS.then c fun xs o1 F1 H1 B1 vs st1 s1 i1 c1 => ?_⟩
  by_cases hl : xs.length ≤ 1000
  · rw [if_pos hl] at c1
    refine ⟨sz (by rw [i1.length]; omega), fun p hp => ?_⟩
    have g := Grow.hid (o := .lst vs) st1.fh hp
    have n2 := (n.step st1).step (Step.of g)
    refine c1 F1 _ B1 _ (.of (Step.of g)) (s1.grow g) (n2.seto (a := p) (vs := vs) upd_same i1 (sub_none st1.fh hp) (not_mem_of s1 hp) fun j ys _ q1 q2 => ?_) fun q ⟨j, ys, q1, q2⟩ => ?_
    · obtain ⟨a', us, g1, g2, _⟩ := (n.step st1).own j ys q1
      rw [q2] at g1
      cases g1
      rw [hp] at g2; cases g2
    · rcases getset q1 with ⟨rfl, l, _⟩ | ⟨ne, q3⟩
      · rw [List.getElem?_set_self (by rw [n.len]; exact l)] at q2
        cases q2
        exact .inr hp
      · rw [List.getElem?_set_ne ne] at q2
        exact .inl ⟨j, ys, q3, q2⟩
  · rw [if_neg hl] at c1; exact c1.elim
/-- the slot of a list of one's own, read -/
theorem own_var {i : Nat} {xs : List D} {Q : VK} (n : EnvOk K F B H σ ρ) (q : ρ[i]? = some (.own xs)) (k : ∀ p vs, σ[i]? = some (some (.ref p)) → H p = some (.lst vs) → IsL K F B vs xs → F p = none → p ∉ B → Q (.ref p) H) : tVar i σ H Q := by
  obtain ⟨p, vs, h1, h2, h3, h4, h5⟩ := n.own i xs q
  exact ⟨_, h1, k p vs h1 h2 h3 h4 h5⟩
theorem EnvOk.ownw (n : EnvOk K F B H σ ρ) {i : Nat} {p : Addr} {vs : List V} {xs ys : List D} (q : ρ[i]? = some (.own xs)) (h : σ[i]? = some (some (.ref p))) (hF : F p = none) (hB : p ∉ B) (hi : IsL K F B vs ys) : EnvOk K F B (upd H p (.lst vs)) σ (ρ.set i (.own ys)) := by
  refine ⟨by rw [List.length_set]; exact n.len, fun j y r => ?_, fun j zs r => ?_, fun j k xs' ys' b h1 h2 h3 h4 => ?_⟩
  · rcases getset r with ⟨rfl, q1, q2⟩ | ⟨q1, q2⟩
    · cases q2
    · exact n.dat j y q2
  · rcases getset r with ⟨rfl, q1, q2⟩ | ⟨q1, q2⟩
    · cases q2
      exact ⟨p, vs, h, upd_same, hi, hF, hB⟩
    · obtain ⟨b, us, g1, g2, g3, g4, g5⟩ := n.own j zs q2
      have ne : b ≠ p := fun e => by subst e; exact q1 (n.sep i j xs zs b q q2 h g1)
      exact ⟨b, us, g1, by rw [upd_ne ne]; exact g2, g3, g4, g5⟩
  · have o1 : ∃ zs, ρ[j]? = some (.own zs) := by
      rcases getset h1 with ⟨rfl, _, _⟩ | ⟨_, q2⟩
      · exact ⟨_, q⟩
      · exact ⟨_, q2⟩
    have o2 : ∃ zs, ρ[k]? = some (.own zs) := by
      rcases getset h2 with ⟨rfl, _, _⟩ | ⟨_, q2⟩
      · exact ⟨_, q⟩
      · exact ⟨_, q2⟩
    obtain ⟨z1, o1⟩ := o1
    obtain ⟨z2, o2⟩ := o2
    exact n.sep j k _ _ b o1 o2 h3 h4
theorem OwnOf.seto {i : Nat} {xs ys : List D} {q : Addr} (h : ρ[i]? = some (.own xs)) (w : OwnOf σ (ρ.set i (.own ys)) q) : OwnOf σ ρ q := by
  obtain ⟨j, zs, h1, h2⟩ := w
  rcases getset h1 with ⟨rfl, _, _⟩ | ⟨_, q2⟩
  · exact ⟨_, _, h, h2⟩
  · exact ⟨_, _, q2, h2⟩
theorem keep_own (s : Step F H B F' H' B') {p : Addr} {vs : List V} (h : H p = some (.lst vs)) (hF : F p = none) (hB : p ∉ B) : H' p = some (.lst vs) ∧ F' p = none ∧ p ∉ B' := by
  refine ⟨s.kp p _ h hB, ?_, fun q => ?_⟩
  · cases q : F' p with
    | none => rfl
    | some u =>
      rcases s.nw p hF (by rw [q]; exact fun z => nomatch z) with z | z
      · rw [h] at z; cases z
      · exact (hB z).elim
  · rcases s.bn p q with z | z
    · exact hB z
    · rw [h] at z; cases z
theorem StepS.ownw (e : Sub F H) {p : Addr} {x : HO} (hF : F p = none) (hA : A p) : StepS A F H B F (upd H p x) B := by
  refine ⟨Sub.refl _, fun a u q => ?_, ⟨[], by simp⟩, fun a u q _ na => ?_, fun a q => ?_, fun a q n => (n q).elim, fun a q => .inl q⟩
  · by_cases z : a = p
    · subst z; rw [hF] at q; cases q
    · rw [upd_ne z]; exact e a u q
  · by_cases z : a = p
    · subst z; exact (na hA).elim
    · rw [upd_ne z]; exact q
  · by_cases z : a = p
    · subst z; rw [upd_same] at q; cases q
    · rw [upd_ne z] at q; exact q
theorem sApp (i : Nat) {x : Str} {p1 apos cpos : Pos} (ha : EX X C E a f) (hN : X.N[i]? = some x := by rfl) (hv : Vis X.env.scope x := by first | exact Or.inl rfl | exact Or.inr (Or.inl rfl) | exact Or.inr (Or.inr rfl)) (hd : (x == ("__debug__" : Str)) = false := by decide) (hcd : (x == ("__classdict__" : Str)) = false := by decide)
    (hbase : attributeBase (.Name x p1) "append" X.env (eval (.Name x p1) X.env) = eval (.Name x p1) X.env := by rfl)
    (hfew : ((backTo cpos (starEach [a] X.env)).all (fun x => !x.1) && (backToKw cpos (keywordEach [] X.env)).all (fun x => x.1.isSome) && decide (([a] : List Expr).length + ([] : List Keyword).length + (if ([] : List Keyword).isEmpty then 0 else 1) < 30)) = true := by rfl) (hline : (apos.endLine == cpos.line) = true := by rfl)
    (hs : swapsWith (.Call (.Attribute (.Name x p1) "append" apos) [a] [] cpos) none pos.line X.env = pure false := by rfl) (he : starEach [a] X.env = (false, eval a X.env) :: starEach [] X.env := by rfl) (hpl : (backTo cpos (starEach [] X.env)).any (·.1) = false := by rfl) :
    ES X C E (.Expr (.Call (.Attribute (.Name x p1) "append" apos) [a] [] cpos) pos) (dApp i f) := by
  refine PS.imp (ps_expr (pe_bm PySem.F.plainAttrs_list PySem.F.slot_list_append PySem.F.type_list_append mt_append (pe_var hN hv hd hcd) (pa_cons ha pa_nil he) hbase hfew hline he hpl) hs) fun Z σ H ⟨F, B, ρ, o, e, s, n, c⟩ => ?_
  unfold dApp at c
  cases q : ρ[i]? with
  | none => rw [q] at c; exact c.elim
  | some y =>
    cases y with
    | own xs =>
      rw [q] at c
      refine own_var (Q := fun x H1 => tyV X.K "list" x H1 ∧ tCons (tE X.K C E f) tNil σ H1 fun xs H2 => rAppend x xs H2 fun _ H3 => Z.nx σ H3) n q fun p vs h1 h2 h3 h4 h5 => ⟨.inl ⟨rfl, vs, SqL.of h2⟩, F, B, ρ, o, e, s, n, ConS.then c fun x o1 F1 H1 B1 v st1 s1 i1 c1 => ?_⟩
      by_cases hl : xs.length < 100000
      · rw [if_pos hl] at c1
        obtain ⟨g1, g2, g3⟩ := keep_own st1 h2 h4 h5
        have i3 := st1.isL h3
        have n1 := n.step st1
        refine ⟨p, vs, v, rfl, rfl, g1, Nat.lt_of_lt_of_le (by rw [h3.length]; exact hl) (by decide : 100000 ≤ sizeLine), ?_⟩
        exact c1 F1 _ B1 _ (StepS.ownw st1.fh g2 ⟨i, xs, q, h1⟩) (s1.ownw g3) (n1.ownw q h1 g2 g3 (i3.append (.cons i1 .nil))) fun a w => .inl (w.seto q)
      · rw [if_neg hl] at c1; exact c1.elim
    | _ => rw [q] at c; exact c.elim
theorem sExt (i : Nat) {x : Str} {p1 apos cpos : Pos} (ha : EX X C E a f) (hN : X.N[i]? = some x := by rfl) (hv : Vis X.env.scope x := by first | exact Or.inl rfl | exact Or.inr (Or.inl rfl) | exact Or.inr (Or.inr rfl)) (hd : (x == ("__debug__" : Str)) = false := by decide) (hcd : (x == ("__classdict__" : Str)) = false := by decide)
    (hbase : attributeBase (.Name x p1) "extend" X.env (eval (.Name x p1) X.env) = eval (.Name x p1) X.env := by rfl)
    (hfew : ((backTo cpos (starEach [a] X.env)).all (fun x => !x.1) && (backToKw cpos (keywordEach [] X.env)).all (fun x => x.1.isSome) && decide (([a] : List Expr).length + ([] : List Keyword).length + (if ([] : List Keyword).isEmpty then 0 else 1) < 30)) = true := by rfl) (hline : (apos.endLine == cpos.line) = true := by rfl)
    (hs : swapsWith (.Call (.Attribute (.Name x p1) "extend" apos) [a] [] cpos) none pos.line X.env = pure false := by rfl) (he : starEach [a] X.env = (false, eval a X.env) :: starEach [] X.env := by rfl) (hpl : (backTo cpos (starEach [] X.env)).any (·.1) = false := by rfl) :
    ES X C E (.Expr (.Call (.Attribute (.Name x p1) "extend" apos) [a] [] cpos) pos) (dExt i f) := by
  refine PS.imp (ps_expr (pe_bm PySem.F.plainAttrs_list PySem.F.slot_list_extend PySem.F.type_list_extend mt_extend (pe_var hN hv hd hcd) (pa_cons ha pa_nil he) hbase hfew hline he hpl) hs) fun Z σ H ⟨F, B, ρ, o, e, s, n, c⟩ => ?_
  unfold dExt at c
  cases q : ρ[i]? with
  | none => rw [q] at c; exact c.elim
  | some y =>
    cases y with
    | own xs =>
      rw [q] at c
      refine own_var (Q := fun x H1 => tyV X.K "list" x H1 ∧ tCons (tE X.K C E f) tNil σ H1 fun xs H2 => rExtend x xs H2 fun _ H3 => Z.nx σ H3) n q fun p vs h1 h2 h3 h4 h5 => ⟨.inl ⟨rfl, vs, SqL.of h2⟩, F, B, ρ, o, e, s, n, ConS.then c fun x o1 F1 H1 B1 v st1 s1 i1 c1 => ?_⟩
      cases ql : lv o1 x with
      | none => simp only [ql] at c1; exact c1.elim
      | some ys =>
        simp only [ql] at c1
        by_cases hl : xs.length + ys.length ≤ 1000000
        · rw [if_pos hl] at c1
          obtain ⟨g1, g2, g3⟩ := keep_own st1 h2 h4 h5
          have i3 := st1.isL h3
          have n1 := n.step st1
          obtain ⟨b, us, rfl, k1, k2⟩ := i1.lv s1 st1.fh ql
          refine ⟨p, b, vs, us, rfl, rfl, g1, k1, Nat.le_trans (by rw [h3.length, k2.length]; exact hl) (by decide : 1000000 ≤ sizeLine), ?_⟩
          exact c1 F1 _ B1 _ (StepS.ownw st1.fh g2 ⟨i, xs, q, h1⟩) (s1.ownw g3) (n1.ownw q h1 g2 g3 (i3.append k2)) fun a w => .inl (w.seto q)
        · rw [if_neg hl] at c1; exact c1.elim
    | _ => rw [q] at c; exact c.elim
/-- one's own list is given away; then the rest -/
theorem sFz (i : Nat) (h : ESs X C E sts s1) : ESs X C E sts (dSeq (dFz i) s1) := by
  refine PSs.imp h fun Z σ H ⟨F, B, ρ, o, e, s, n, c⟩ => ?_
  unfold dSeq dFz at c
  cases q : ρ[i]? with
  | none => rw [q] at c; exact c.elim
  | some y =>
    cases y with
    | own xs =>
      rw [q] at c
      obtain ⟨p, vs, h1, h2, h3, h4, h5⟩ := n.own i xs q
      have s' := s.learn (x := .lst vs) h4 h5
      have st : StepS (OwnOf σ ρ) F H B (upd F p (.lst vs)) H B := by
        refine ⟨sub_upd h4, fun a u r => ?_, ⟨[], by simp⟩, fun a u r _ _ => r, fun a r => r, fun a r m => ?_, fun a r => .inl r⟩
        · by_cases z : a = p
          · subst z; rw [upd_same] at r; rw [h2]; exact r
          · rw [upd_ne z] at r; exact e a u r
        · by_cases z : a = p
          · subst z; exact .inr (.inr ⟨i, xs, q, h1⟩)
          · rw [upd_ne z] at m; exact (m r).elim
      have n' : EnvOk X.K (upd F p (.lst vs)) B H σ (ρ.set i (.d (.lst xs))) := by
        have up : ∀ {v : V} {d : D}, Is X.K F B v d → Is X.K (upd F p (.lst vs)) B v d := fun h => h.mono (sub_upd h4) fun _ _ h => h
        have upL : ∀ {v : List V} {d : List D}, IsL X.K F B v d → IsL X.K (upd F p (.lst vs)) B v d := fun h => h.mono (sub_upd h4) fun _ _ h => h
        refine ⟨by rw [List.length_set]; exact n.len, fun j y r => ?_, fun j zs r => ?_, fun j k xs' ys' b g1 g2 g3 g4 => ?_⟩
        · rcases getset r with ⟨rfl, _, q2⟩ | ⟨_, q2⟩
          · cases q2; exact ⟨_, h1, .lst upd_same (upL h3)⟩
          · obtain ⟨v, k1, k2⟩ := n.dat j y q2
            exact ⟨v, k1, up k2⟩
        · rcases getset r with ⟨rfl, _, q2⟩ | ⟨ne, q2⟩
          · cases q2
          · obtain ⟨b, us, k1, k2, k3, k4, k5⟩ := n.own j zs q2
            exact ⟨b, us, k1, k2, upL k3, by rw [upd_ne (fun z => by subst z; exact ne (n.sep i j xs zs b q q2 h1 k1))]; exact k4, k5⟩
        · rcases getset g1 with ⟨_, _, q2⟩ | ⟨_, q2⟩
          · cases q2
          · rcases getset g2 with ⟨_, _, q4⟩ | ⟨_, q4⟩
            · cases q4
            · exact n.sep j k xs' ys' b q2 q4 g3 g4
      have w : ∀ a, OwnOf σ (ρ.set i (.d (.lst xs))) a → OwnOf σ ρ a := fun a ⟨j, zs, k1, k2⟩ => by
        rcases getset k1 with ⟨_, _, q2⟩ | ⟨_, q2⟩
        · cases q2
        · exact ⟨j, zs, q2, k2⟩
      exact ⟨_, B, _, o, st.fh, s', n', ConS.stepS c st fun a r => .inl (w a r)⟩
    | _ => rw [q] at c; exact c.elim
/-! ### lists and objects behind handles -/
theorem Is.hv {K : PySem.W.Frag} {F H : Hp} {B : List Addr} {o : Om} (s : Store K C F B H o) {v : V} {d : D} {m : Nat} {xs : List D} (h : Is K F B v d) (q : hv o d = some (m, xs)) :
    ∃ a vs, d = .obj m ∧ B[m]? = some a ∧ o[m]? = some (.ml xs) ∧ v = .ref a ∧ F a = none ∧ H a = some (.lst vs) ∧ IsL K F B vs xs := by
  cases h with
  | @obj a n h1 =>
    cases hy : o[n]? with
    | none => simp [KR.hv, hy] at q
    | some mo =>
      cases mo with
      | ml ys =>
        simp [KR.hv, hy] at q
        obtain ⟨rfl, rfl⟩ := q
        obtain ⟨h0, vs, h2, h3⟩ := s.obj h1 hy
        exact ⟨a, vs, rfl, h1, hy, rfl, h0, h2, h3⟩
      | _ => simp [KR.hv, hy] at q
  | _ => cases q
def dLstH (f : DA) : DE := fun ρ o => (f ρ o).bind fun xs o1 => if xs.length ≤ 1000 then .ok (.obj o1.length) (o1 ++ [.ml xs]) else .bad
/-- a new list, behind a handle -/
theorem eLstH {es : List Expr} {g : DA} (ha : EA X C E es g) : EX X C E (.List es pos) (dLstH g) := PE.imp (pe_lst ha) fun σ H Q ⟨F, B, ρ, o, e, s, n, c⟩ => ⟨F, B, ρ, o, e, s, n, Con.then c fun xs o1 F1 H1 B1 vs st1 s1 i1 c1 => by
  by_cases hl : xs.length ≤ 1000
  · rw [if_pos hl] at c1
    refine ⟨sz (by rw [i1.length]; omega), fun p hp => ?_⟩
    have g := Grow.hid (o := .lst vs) st1.fh hp
    have sp : Step F1 H1 B1 F1 _ (B1 ++ [p]) := Step.push g hp
    have ss : Store X.K C F1 (B1 ++ [p]) _ (o1 ++ [.ml xs]) := s1.push g hp (by rw [upd_same]; exact fun z => nomatch z) ⟨sub_none st1.fh hp, vs, upd_same, sp.isL i1⟩
    exact c1 F1 _ (B1 ++ [p]) _ sp ss (.obj (by rw [← s1.len]; exact getlast _ _))
  · rw [if_neg hl] at c1; exact c1.elim⟩
theorem setD_is {vs : List V} {xs ys : List D} {i : Int} {v : V} {d : D} (h : IsL K F B vs xs) (hd : Is K F B v d) (q : setD xs i d = some ys) : ∃ j, ixN vs.length i = some j ∧ IsL K F B (vs.set j v) ys := by
  unfold setD at q
  cases r : ixN xs.length i with
  | none => rw [r] at q; cases q
  | some j =>
    rw [r] at q; cases q
    exact ⟨j, by rw [h.length]; exact r, IsL.set hd j h⟩
/-- o[i] = e -/
theorem sSetI {o0 i0 : Expr} {tp : Pos} (ho : EX X C E o0 g) (hi : EX X C E i0 h) (he : EX X C E a f)
    (hasn : ∀ v, assign (.Subscript o0 i0 tp) X.env v = (do let ov ← eval o0 X.env |> holding [v]; let iv ← holding [v, ov] (eval i0 X.env); standAt tp; holding [v, ov, iv] (setItem ov iv v); release [v, ov, iv] []) := by intro _; rfl)
    (hs : swapsWithSole [.Subscript o0 i0 tp] a pos.line X.env = pure false := by rfl) (hw : swappedStores [.Subscript o0 i0 tp] a X.env = pure none := by rfl) (h1 : (assignEach [.Subscript o0 i0 tp] X.env).map (·.2) = [assign (.Subscript o0 i0 tp) X.env] := by rfl) :
    ES X C E (.Assign [.Subscript o0 i0 tp] a pos) (dSetI g h f) := by
  refine PS.imp (ps_asg he (pg_sub ho hi set_list hasn) hs hw h1) fun Z σ H ⟨F, B, ρ, o, e, s, n, c⟩ => ⟨F, B, ρ, o, e, s, n, ConS.then c fun x o1 F1 H1 B1 v st1 s1 i1 c1 => ⟨F1, B1, ρ, o1, st1.fh, s1, n.step st1, ConS.then c1 fun y o2 F2 H2 B2 u st2 s2 i2 c2 => ⟨F2, B2, ρ, o2, st2.fh, s2, (n.step st1).step st2, ConS.then c2 fun z o3 F3 H3 B3 w st3 s3 i3 c3 => ?_⟩⟩⟩
  cases q : hv o3 y with
  | none => rw [q] at c3; exact c3.elim
  | some pr =>
    obtain ⟨m, xs⟩ := pr
    rw [q] at c3
    cases i3 with
    | int k =>
      simp only at c3
      cases q2 : setD xs k x with
      | none => rw [q2] at c3; exact c3.elim
      | some ys =>
        rw [q2] at c3
        obtain ⟨ad, vs, _, hB, ho3, rfl, hF, hH, il⟩ := (st3.is i2).hv s3 q
        obtain ⟨j, hj, il2⟩ := setD_is il ((st2.trans st3).is i1) q2
        refine ⟨ad, vs, k, j, rfl, rfl, hH, hj, ?_⟩
        have st := Step.put (x := .lst (vs.set j v)) (Step.refl st3.fh) hB hF
        exact c3 F3 _ B3 _ (.of st) (s3.put hB hF il2) ((((n.step st1).step st2).step st3).step st) fun a q => .inl q
    | _ => exact c3.elim
end
end KR
set_option Elab.async false
set_option linter.all false
set_option maxRecDepth 100000
set_option maxHeartbeats 2000000
namespace KR
open PySem L2
section
variable {X : Cx} {C : Addr} {E : XK} {a b c tg : Expr} {f g h : DE} {fa : DA} {tf : DB} {pos : Pos} {st : Stmt} {sts : List Stmt} {s1 s2 : DS}
variable {K : PySem.W.Frag} {F F' H H' : Hp} {B B' : List Addr} {o o' : Om} {σ σ' : L2.St} {ρ ρ' : Rho} {A A1 : Addr → Prop}
/-! ### fields stored -/
theorem put_keys (m : Str) (v : V) (d : D) : ∀ {fvs : List (Str × V)} {fs : List (Str × D)}, fvs.map (·.1) = fs.map (·.1) → (putF m v fvs).map (·.1) = (putD m d fs).map (·.1)
  | [], [], _ => rfl
  | [], _ :: _, h => by cases h
  | _ :: _, [], h => by cases h
  | (a, v') :: fvs, (b, d') :: fs, h => by
    simp only [List.map_cons, List.cons.injEq] at h
    obtain ⟨rfl, h⟩ := h
    unfold putF putD
    by_cases q : a = m
    · rw [if_pos q, if_pos q]; simp [h]
    · rw [if_neg q, if_neg q]; simp [put_keys m v d h]
theorem put_vals {m : Str} {v : V} {d : D} (i : Is K F B v d) : ∀ {fvs : List (Str × V)} {fs : List (Str × D)}, fvs.map (·.1) = fs.map (·.1) → IsL K F B (fvs.map (·.2)) (fs.map (·.2)) → IsL K F B ((putF m v fvs).map (·.2)) ((putD m d fs).map (·.2))
  | [], [], _, _ => .cons i .nil
  | [], _ :: _, h, _ => by cases h
  | _ :: _, [], h, _ => by cases h
  | (a, v') :: fvs, (b, d') :: fs, h, il => by
    simp only [List.map_cons, List.cons.injEq] at h
    obtain ⟨rfl, h⟩ := h
    simp only [List.map_cons] at il
    cases il with
    | cons i1 i2 =>
      unfold putF putD
      by_cases q : a = m
      · rw [if_pos q, if_pos q]; exact .cons i i2
      · rw [if_neg q, if_neg q]; exact .cons i1 (put_vals i h i2)
theorem Store.putI (s : Store K C F B H o) {n : Nat} {p dx : Addr} {fvs : List (Str × V)} {fs : List (Str × D)} (hn : B[n]? = some p) (hF : F p = none) (hk : fvs.map (·.1) = fs.map (·.1)) (hi : IsL K F B (fvs.map (·.2)) (fs.map (·.2))) : Store K C F B (upd H p (.ins C dx fvs)) (o.set n (.ins fs)) := by
  refine ⟨by rw [List.length_set]; exact s.len, s.nd, fun a ha => ?_, fun m a mo h1 h2 => ?_⟩
  · by_cases e : a = p
    · subst e; rw [upd_same]; exact fun z => nomatch z
    · rw [upd_ne e]; exact s.there a ha
  · by_cases e : a = p
    · subst e
      have em : m = n := nodup_at s.nd h1 hn
      subst em
      rcases getset h2 with ⟨_, _, q⟩ | ⟨q, _⟩
      · subst q; exact ⟨hF, dx, fvs, upd_same, hk, hi⟩
      · exact (q rfl).elim
    · have ne : n ≠ m := fun q => e (by subst q; rw [hn] at h1; exact (Option.some.inj h1).symm)
      rw [List.getElem?_set_ne ne] at h2
      have z := s.at_ m a mo h1 h2
      cases mo with
      | ml xs => obtain ⟨z1, vs, z2, z3⟩ := z; exact ⟨z1, vs, by rw [upd_ne e]; exact z2, z3⟩
      | ins fs => obtain ⟨z1, dx, fvs, z2, z3, z4⟩ := z; exact ⟨z1, dx, fvs, by rw [upd_ne e]; exact z2, z3, z4⟩
      | gone => trivial
      | tb x => obtain ⟨z1, z2, ps, z3, z4, z5⟩ := z; exact ⟨z1, z2, ps, by rw [upd_ne e]; exact z3, z4, z5⟩
      | dt x => obtain ⟨z1, z2⟩ := z; exact ⟨z1, by rw [upd_ne e]; exact z2⟩
      | dn x => obtain ⟨z1, z2⟩ := z; exact ⟨z1, by rw [upd_ne e]; exact z2⟩
theorem sSetF {m : Str} {o0 : Expr} {tp : Pos} (hcl : Cls X.K C) (hn : NoAttr X.K C m) (ho : EX X C E o0 g) (he : EX X C E a f) (hs : swapsWith a (some (.Attribute o0 m tp)) pos.line X.env = pure false := by rfl) : ES X C E (.Assign [.Attribute o0 m tp] a pos) (dSetF m g f) := by
  refine PS.imp (ps_fld ho he hs) fun Z σ H ⟨F, B, ρ, o, e, s, n, c⟩ => ⟨F, B, ρ, o, e, s, n, ConS.then c fun x o1 F1 H1 B1 v st1 s1 i1 c1 => ⟨F1, B1, ρ, o1, st1.fh, s1, n.step st1, ConS.then c1 fun y o2 F2 H2 B2 u st2 s2 i2 c2 => ?_⟩⟩
  cases q : fv o2 y with
  | none => rw [q] at c2; exact c2.elim
  | some pr =>
    obtain ⟨mm, fs⟩ := pr
    rw [q] at c2
    simp only at c2
    by_cases hl : fs.length < 100
    · rw [if_pos hl] at c2
      obtain ⟨ad, dx, fvs, _, hB, ho2, rfl, g2, g3, g4⟩ := i2.fv s2 q
      have hF : F2 ad = none := (s2.obj hB ho2).1
      have el : fvs.length = fs.length := by have := congrArg List.length g3; simpa using this
      refine ⟨ad, C, dx, fvs, rfl, g2, hcl, hn, by rw [el]; omega, ?_⟩
      have st := Step.put (x := .ins C dx (putF m v fvs)) (Step.refl st2.fh) hB hF
      exact c2 F2 _ B2 _ (.of st) (s2.putI hB hF (put_keys m v x g3) (put_vals (st2.is i1) g3 g4)) (((n.step st1).step st2).step st) fun a q => .inl q
    · rw [if_neg hl] at c2; exact c2.elim
/-! ### methods of lists behind handles -/
def MtOk (K : PySem.W.Frag) (C : Addr) (r : V → List V → Hp → VK → Prop) (op : List D → List D → Option (List D × D)) : Prop := ∀ (F H : Hp) (B : List Addr) (p : Addr) (vs : List V) (xs : List D) (as : List V) (ds : List D) (ys : List D) (z : D) (Q : VK),
  F p = none → H p = some (.lst vs) → IsL K F B vs xs → IsL K F B as ds → op xs ds = some (ys, z) → (∀ vs' w, IsL K F B vs' ys → Is K F B w z → Q w (upd H p (.lst vs'))) → r (.ref p) as H Q
theorem eBM {id : String} {r : V → List V → Hp → VK → Prop} {op : List D → List D → Option (List D × D)} {name : Str} {o0 : Expr} {apos : Pos} {es : List Expr} (mo : MtOk X.K C r op) (slot : Slot "list" name id) (hty : typeOf (.builtin id) = pure (.type "method_descriptor")) (hm : MtR X id r) (ho : EX X C E o0 g) (ha : EA X C E (a :: es) fa)
    (hbase : attributeBase o0 name X.env (eval o0 X.env) = eval o0 X.env := by rfl)
    (hfew : ((backTo pos (starEach (a :: es) X.env)).all (fun x => !x.1) && (backToKw pos (keywordEach [] X.env)).all (fun x => x.1.isSome) && decide ((a :: es).length + ([] : List Keyword).length + (if ([] : List Keyword).isEmpty then 0 else 1) < 30)) = true := by rfl) (hline : (apos.endLine == pos.line) = true := by rfl)
    (hs : starEach (a :: es) X.env = (false, eval a X.env) :: starEach es X.env := by rfl) (hpl : (backTo pos (starEach es X.env)).any (·.1) = false := by rfl) : EX X C E (.Call (.Attribute o0 name apos) (a :: es) [] pos) (dBM op g fa) := by
  refine PE.imp (pe_bm PySem.F.plainAttrs_list slot hty hm ho ha hbase hfew hline hs hpl) fun σ H Q ⟨F, B, ρ, o, e, s, n, c⟩ => ⟨F, B, ρ, o, e, s, n, Con.then c fun x o1 F1 H1 B1 v st1 s1 i1 c1 => ?_⟩
  by_cases hq : (hv o1 x).isSome = true
  · rw [if_pos hq] at c1
    obtain ⟨⟨m0, xs0⟩, hx⟩ := Option.isSome_iff_exists.mp hq
    obtain ⟨ad, vs0, e0, hB0, _, rfl, hF0, hH0, _⟩ := i1.hv s1 hx
    refine ⟨.inl ⟨rfl, vs0, SqL.of hH0⟩, F1, B1, ρ, o1, st1.fh, s1, n.step st1, Con.then c1 fun ds o2 F2 H2 B2 as st2 s2 i2 c2 => ?_⟩
    cases q : hv o2 x with
    | none => rw [q] at c2; exact c2.elim
    | some pr =>
      obtain ⟨m, xs⟩ := pr
      rw [q] at c2
      simp only at c2
      cases q2 : op xs ds with
      | none => rw [q2] at c2; exact c2.elim
      | some pz =>
        obtain ⟨ys, z⟩ := pz
        rw [q2] at c2
        obtain ⟨ad', vs, e1, hB, ho2, er, hF, hH, il⟩ := (st2.is i1).hv s2 q
        cases er
        refine mo F2 H2 B2 ad vs xs as ds ys z Q hF hH il i2 q2 fun vs' w il' iw => ?_
        have st := Step.put (x := .lst vs') (Step.refl st2.fh) hB hF
        exact c2 F2 _ B2 w st (s2.put hB hF il') iw
  · rw [if_neg hq] at c1; exact c1.elim
def mAppend (xs ds : List D) : Option (List D × D) := match ds with
  | [x] => if xs.length < 100000 then some (xs ++ [x], .non) else none
  | _ => none
theorem m_append : MtOk X.K C rAppend mAppend := by
  intro F H B p vs xs as ds ys z Q hF hH il ia hop k
  match ds, hop with
  | [x], hop =>
    have hop' : (if xs.length < 100000 then some (xs ++ [x], D.non) else none) = some (ys, z) := hop
    obtain ⟨v, rfl, i⟩ := one_of ia
    by_cases hl : xs.length < 100000
    · rw [if_pos hl] at hop'
      cases hop'
      exact ⟨p, vs, v, rfl, rfl, hH, Nat.lt_of_lt_of_le (by rw [il.length]; exact hl) (by decide : 100000 ≤ sizeLine), k _ _ (il.append (.cons i .nil)) .non⟩
    · rw [if_neg hl] at hop'; cases hop'
  | [], hop => cases hop
  | _ :: _ :: _, hop => cases hop
theorem eAppH {o0 : Expr} {apos : Pos} (ho : EX X C E o0 g) (ha : EX X C E a f)
    (hbase : attributeBase o0 "append" X.env (eval o0 X.env) = eval o0 X.env := by rfl)
    (hfew : ((backTo pos (starEach [a] X.env)).all (fun x => !x.1) && (backToKw pos (keywordEach [] X.env)).all (fun x => x.1.isSome) && decide (([a] : List Expr).length + ([] : List Keyword).length + (if ([] : List Keyword).isEmpty then 0 else 1) < 30)) = true := by rfl) (hline : (apos.endLine == pos.line) = true := by rfl)
    (hs : starEach [a] X.env = (false, eval a X.env) :: starEach [] X.env := by rfl) (hpl : (backTo pos (starEach [] X.env)).any (·.1) = false := by rfl) : EX X C E (.Call (.Attribute o0 "append" apos) [a] [] pos) (dBM mAppend g (dCons f dNil)) :=
  eBM m_append PySem.F.slot_list_append PySem.F.type_list_append mt_append ho (aCons ha aNil hs) hbase hfew hline hs hpl
/-! ### raise of an own class without its own __init__ -/
def dRaise (x : Xc) : DS := fun _ o => .exc x o
theorem sRaise {x m : Str} {xc : Xc} {j : Nat} {p p2 pc pos : Pos} {Cx0 : Addr} (hc : X.calm = true) (tk : Takes X (fun cls d _ H => E cls d H)) (q : PySem.W.excIn X.K Cx0 He.veBase "ValueError.__new__" = true) (gC : X.mg x = some (.ref Cx0)) (kC : PySem.W.keepIn X.K (.ref Cx0) = true)
    (bC : PySem.W.subIn X.K (.ref Cx0) (.type "BaseException") = some true) (tC : PySem.W.typeIn X.K (.ref Cx0) = some (.type "type")) (hx : ∀ H, XAt X.K H xc (.ref Cx0) none) (hg : Gl X x := by rfl) (hdb : (x == ("__debug__" : Str)) = false := by decide) :
    ES X C E (.Raise (some (.Call (.Name x p) [.Constant (.str m) j p2] [] pc)) none pos) (dRaise xc) :=
  PS.imp (ps_raise hc tk (pmk_own PySem.F.excBase_ValueError q gC kC (raises_own bC tC) hg hdb)) fun Z σ H ⟨F, B, ρ, o, e, s, n, c⟩ => c F H B _ _ (.of (Step.refl e)) s (hx F)
end
/-! ### a def by its body -/
def dDef (n : Nat) (den : DS) : Phi := fun ds o => match den (ds.map EV.d ++ List.replicate (n - ds.length) EV.no) o with
  | .nx _ o' => .ok .non o'
  | .rt d o' => .ok d o'
  | .exc x o' => .exc x o'
  | _ => .bad
theorem start_env {K : PySem.W.Frag} {F H : Hp} {B : List Addr} {N : List Str} {vs : List V} {ds : List D} (i : IsL K F B vs ds) : EnvOk K F B H (L2.start N vs) (ds.map EV.d ++ List.replicate (N.length - ds.length) EV.no) ∧ ∀ a, ¬ OwnOf (L2.start N vs) (ds.map EV.d ++ List.replicate (N.length - ds.length) EV.no) a := by
  have noown : ∀ (j : Nat) (xs : List D), (ds.map EV.d ++ List.replicate (N.length - ds.length) EV.no)[j]? ≠ some (.own xs) := by
    intro j xs h
    have hm := List.mem_of_getElem? h
    rcases List.mem_append.mp hm with h | h
    · obtain ⟨d, _, e⟩ := List.mem_map.mp h; cases e
    · have := (List.mem_replicate.mp h).2; cases this
  refine ⟨⟨?_, fun j x h => ?_, fun j xs h => (noown j xs h).elim, fun j k xs ys a h _ _ _ => (noown j xs h).elim⟩, fun a ⟨j, xs, h, _⟩ => noown j xs h⟩
  · unfold L2.start
    simp [i.length]
  · rw [List.getElem?_append] at h
    by_cases q : j < (ds.map EV.d).length
    · rw [if_pos q, List.getElem?_map] at h
      cases e : ds[j]? with
      | none => rw [e] at h; cases h
      | some d =>
        rw [e] at h
        cases h
        obtain ⟨v, g1, g2⟩ := i.get e
        refine ⟨v, ?_, g2⟩
        unfold L2.start
        have l : j < vs.length := (List.getElem?_eq_some_iff.mp g1).1
        rw [List.getElem?_append_left (by rw [List.length_map]; exact l), List.getElem?_map, g1]
        rfl
    · rw [if_neg q] at h
      have := (List.mem_replicate.mp (List.mem_of_getElem? h)).2
      cases this
abbrev cxd (P : Program) (w : World) (K : PySem.W.Frag) (mg : Str → Option Value) (base : Heap) (N : List Str) (qual : Str) (scope : Scope) (f : Addr) (cdv : Value) (A : Around) (outer : List Env) (s : Shared) (H : Hp) (E : XK) : Cx := cxOf (L2.CX P w) P w K mg base N qual scope f cdv A outer s H E
theorem fn_ok {P : Program} {w : World} {K : PySem.W.Frag} {mg : Str → Option Value} {base : Heap} {C : Addr} {x qual : Str} {params : Arguments} {body : List Stmt} {scope : Scope} {f : Addr} {fd : FuncData} {N ps : List Str} {k : Nat} {den : DS} (F : FunD K x qual params body scope [] [] f fd) (S : FnScope N ps scope)
    (hbody : ∀ (cdv : Value) (A : Around) (outer : List Env) (s : Shared) (H : Hp) (E : XK), Room k (A.deeper (PyProof.Rows.envOfC qual scope s.heap.objs.size f cdv)) →
      Passes (L2.CX P w) (cxd P w K mg base N qual scope f cdv A outer s H E) E → PassesOwn (model P w) (cxd P w K mg base N qual scope f cdv A outer s H E).A (cxd P w K mg base N qual scope f cdv A outer s H E).env (cxd P w K mg base N qual scope f cdv A outer s H E).xe →
      Takes (cxd P w K mg base N qual scope f cdv A outer s H E) (fun cls d _ H => E cls d H) → ESs (cxd P w K mg base N qual scope f cdv A outer s H E) C E body den) :
    FnOk P w K mg base (L2.CX P w) (k + 1) f fd ps (spF K C ps.length (dDef N.length den)) := by
  refine F.ok S (fun vs H Q E h => h.1) (fun cdv A outer s H vs Q E hr h => ?_)
  have tk : Takes (cxd P w K mg base N qual scope f cdv A outer s H E) (fun cls d _ H => E cls d H) := takes_of rfl rfl rfl rfl
  refine ⟨_, hbody cdv A outer s H E hr (passes_call tk fun _ _ _ _ z => z) (passes_of rfl) tk, ?_⟩
  obtain ⟨hl, F0, B0, o0, ds, e0, s0, i0, c0⟩ := h
  obtain ⟨n0, w0⟩ := start_env (H := H) (N := N) i0
  refine ⟨F0, B0, _, o0, e0, s0, n0, ?_⟩
  have down : ∀ {F' H' : Hp} {B' : List Addr}, StepS (OwnOf (L2.start N vs) (ds.map EV.d ++ List.replicate (N.length - ds.length) EV.no)) F0 H B0 F' H' B' → Step F0 H B0 F' H' B' := fun st =>
    ⟨st.ff, st.fh, st.bb, fun a u q n => st.kp a u q n (w0 a), st.th, fun a q n => by rcases st.nw a q n with z | z | z; exact .inl z; exact .inr z; exact (w0 a z).elim, fun a q => by rcases st.bn a q with z | z | z; exact .inl z; exact .inr z; exact (w0 a z).elim⟩
  unfold dDef at c0
  cases q : den (ds.map EV.d ++ List.replicate (N.length - ds.length) EV.no) o0 with
  | nx ρ o => rw [q] at c0; exact fun F' H' B' σ' st ss _ _ => c0 F' H' B' .non (down st) ss .non
  | rt d o => rw [q] at c0; exact fun F' H' B' v st ss i => c0 F' H' B' v (down st) ss i
  | exc x o => rw [q] at c0; exact fun F' H' B' cl d st ss xa => c0 F' H' B' cl d (down st) ss xa
  | bk ρ o => rw [q] at c0; exact c0.elim
  | ct ρ o => rw [q] at c0; exact c0.elim
  | bad => rw [q] at c0; exact c0.elim
end KR
set_option Elab.async false
set_option linter.all false
set_option maxRecDepth 100000
set_option maxHeartbeats 2000000
namespace KR
open PySem PySem.Spec PyProof.Rows L2
/-- what a set can hold here: None, numbers (True and False among them), texts -/
inductive ZK where
  | non | int (i : Int) | str (x : Str)
deriving DecidableEq
def zIs : ZK → Value → Bool
  | .non, .none => true
  | .int i, .int j _ => j == i
  | .int i, .bool b => (if b then 1 else 0) == i
  | .str x, .str y _ => y == x
  | _, _ => false
theorem zIs_shape {k : ZK} {v : Value} (h : zIs k v = true) : (k = .non ∧ v = .none) ∨ (∃ i t, k = .int i ∧ v = .int i t) ∨ (∃ b : Bool, k = .int (if b then 1 else 0) ∧ v = .bool b) ∨ (∃ x t, k = .str x ∧ v = .str x t) := by
  cases k with
  | non => cases v <;> first | exact .inl ⟨rfl, rfl⟩ | exact nomatch h
  | int i =>
    cases v with
    | int j t => exact .inr (.inl ⟨i, t, rfl, by have e : j = i := eq_of_beq h; rw [e]⟩)
    | bool b => exact .inr (.inr (.inl ⟨b, by rw [eq_of_beq (show ((if b then (1 : Int) else 0) == i) = true from h)], rfl⟩))
    | _ => exact nomatch h
  | str x =>
    cases v with
    | str y t => exact .inr (.inr (.inr ⟨x, t, rfl, by have e : y = x := eq_of_beq h; rw [e]⟩))
    | _ => exact nomatch h
def zHash (w : World) : ZK → Int
  | .non => 0xFCA86420
  | .int i => hashInt i
  | .str x => hashStr w x
section
variable {prog : Program} {w : World} {A : Around} {E : Value → Shared → Prop} {s : Shared}
theorem pyHash_non {Q : Int → Shared → Prop} (h : Q 0xFCA86420 { s with toks := s.toks + 1 }) : wpAny (model prog w) A (pyHash .none) Q E s := by
  have ty : s.TypeIs .none "NoneType" := rfl
  have sl := PySem.F.slot_NoneType_hash
  unfold pyHash
  refine wpAny_bind ?_
  unfold cRoomFor
  show wpAny _ _ (if [Value.none].any Value.onHeap = true then _ else _) _ _ _
  rw [if_neg (by decide)]
  refine wpAny_pure (wpAny_bind (wpAny_specialOf ty sl.lookup ?_))
  show wpAny _ _ (if (some (Value.builtin "NoneType.__hash__") == some Value.none) = true then _ else _) Q E s
  rw [if_neg (beq_builtin_none _ ▸ Bool.false_ne_true)]
  refine wpAny_bind (wpAny_specialOf ty sl.lookup (show wpAny _ _ (callSpecialIfBoundUnlessNone? .none "__hash__" _ >>= _) Q E s from wpAny_bind (wpAny_callSpecialIfBoundUnlessNone?_slot ty sl (wpAny_call_entry sl ty PySem.F.entry_NoneType_hash (show wpAny _ _ (do ret (← mkInt 0xFCA86420)) _ _ s from wpAny_ret_mkInt ?_) (PySem.F.args_NoneType_hash_1 _)))))
  show wpAny _ _ (if (decide (-(2 : Int) ^ 63 ≤ 0xFCA86420) && decide ((0xFCA86420 : Int) < 2 ^ 63)) = true then _ else _) Q E _
  rw [if_pos (by decide)]
  exact wpAny_pure h
end
theorem dec_int (a b : Int) : decide ((ZK.int a) = ZK.int b) = (a == b) := by
  by_cases e : a = b
  · subst e; simp
  · rw [decide_eq_false (fun q => e (by cases q; rfl))]; exact (beq_eq_false_iff_ne.mpr e).symm
theorem dec_str (a b : Str) : decide ((ZK.str a) = ZK.str b) = decide (a = b) := by
  by_cases e : a = b
  · subst e; simp
  · rw [decide_eq_false (fun q => e (by cases q; rfl)), decide_eq_false e]
def zKind (prog : Program) (w : World) : PySem.KeyKind prog w ZK where
  is := zIs
  hash := zHash w
  inj := fun v a b ha hb => by
    rcases zIs_shape ha with ⟨rfl, rfl⟩ | ⟨i, t, rfl, rfl⟩ | ⟨i, rfl, rfl⟩ | ⟨x, t, rfl, rfl⟩ <;> rcases zIs_shape hb with ⟨rfl, e⟩ | ⟨j, u, rfl, e⟩ | ⟨j, rfl, e⟩ | ⟨y, u, rfl, e⟩ <;> cases e <;> rfl
  byValue := fun k v h => by
    rcases zIs_shape h with ⟨rfl, rfl⟩ | ⟨i, t, rfl, rfl⟩ | ⟨i, rfl, rfl⟩ | ⟨x, t, rfl, rfl⟩ <;> rfl
  pyHash := fun hv h => by
    rcases zIs_shape hv with ⟨rfl, rfl⟩ | ⟨i, t, rfl, rfl⟩ | ⟨i, rfl, rfl⟩ | ⟨x, t, rfl, rfl⟩
    · exact pyHash_non h
    · exact wpAny_pyHash_int h
    · exact PpSet.pyHash_bool h
    · exact wpAny_pyHash_str h
  eqBool := fun hu hv h => by
    rcases zIs_shape hu with ⟨rfl, rfl⟩ | ⟨i, t, rfl, rfl⟩ | ⟨i, rfl, rfl⟩ | ⟨x, t, rfl, rfl⟩ <;> rcases zIs_shape hv with ⟨rfl, rfl⟩ | ⟨j, u, rfl, rfl⟩ | ⟨j, rfl, rfl⟩ | ⟨y, u, rfl, rfl⟩
    · unfold eqBool
      refine wpAny_holding ?_
      exact wpAny_ite_split (fun _ => wpAny_bind (wpAny_rule (wpAny_pure (by simpa using h)))) (fun q => absurd (by decide) q)
    · exact SeqAt.EqAt.none_int j u _ _ _ _ h
    · exact SeqAt.EqAt.none_bool j _ _ _ _ h
    · exact SeqAt.EqAt.none_str y u _ _ _ _ h
    · exact SeqAt.EqAt.int_none i t _ _ _ _ h
    · rw [dec_int] at h; exact wpAny_eqBool_int h
    · rw [dec_int] at h; exact SeqAt.EqAt.int_bool i t j _ _ _ _ h
    · exact SeqAt.EqAt.int_str i t y u _ _ _ _ h
    · exact SeqAt.EqAt.bool_none i _ _ _ _ h
    · rw [dec_int] at h; exact SeqAt.EqAt.bool_int i j u _ _ _ _ h
    · rw [dec_int] at h; exact SeqAt.EqAt.bool_bool i j _ _ _ _ (by
        have e : (((if i then (1 : Int) else 0) == (if j then 1 else 0)) : Bool) = (i == j) := by cases i <;> cases j <;> rfl
        rw [e] at h; exact h)
    · exact SeqAt.EqAt.bool_str i y u _ _ _ _ h
    · exact SeqAt.EqAt.str_none x t _ _ _ _ h
    · exact SeqAt.EqAt.str_int x t j u _ _ _ _ h
    · exact SeqAt.EqAt.str_bool x t j _ _ _ _ h
    · rw [dec_str] at h; exact wpAny_eqBool_str h
  «strs» := fun k x t v h => by
    rcases zIs_shape h with ⟨rfl, e⟩ | ⟨i, u, rfl, e⟩ | ⟨i, rfl, e⟩ | ⟨y, u, rfl, e⟩
    · exact nomatch e
    · exact nomatch e
    · exact nomatch e
    · injection e with e1 _
      subst e1
      cases v <;> rfl
/-- the members, each once, in the order of their first place -/
def dd {α : Type} [DecidableEq α] (l : List α) : List α := l.foldl (fun acc k => if k ∈ acc then acc else acc ++ [k]) []
theorem dd_snoc {α : Type} [DecidableEq α] (l : List α) (x : α) : dd (l ++ [x]) = if x ∈ dd l then dd l else dd l ++ [x] := by
  unfold dd
  rw [List.foldl_append] <;> rfl
theorem dd_ind {α : Type} [DecidableEq α] {p : List α → List α → Prop} (h0 : p [] []) (hs : ∀ l x, p l (dd l) → p (l ++ [x]) (if x ∈ dd l then dd l else dd l ++ [x])) : ∀ n (l : List α), l.length = n → p l (dd l)
  | 0, l, h => by rw [List.eq_nil_of_length_eq_zero h]; exact h0
  | n + 1, l, h => by
    have e : l = l.dropLast ++ [l.getLast (by rintro rfl; cases h)] := (List.dropLast_concat_getLast _).symm
    rw [e, dd_snoc]
    exact hs _ _ (dd_ind h0 hs n l.dropLast (by rw [List.length_dropLast, h] <;> rfl))
theorem mem_dd {α : Type} [DecidableEq α] (l : List α) : ∀ x, x ∈ dd l ↔ x ∈ l := by
  refine dd_ind (p := fun l d => ∀ x, x ∈ d ↔ x ∈ l) (fun x => Iff.rfl) (fun l x ih y => ?_) _ l rfl
  by_cases h : x ∈ dd l
  · rw [if_pos h, ih, List.mem_append, List.mem_singleton]
    exact ⟨.inl, fun q => q.elim id fun e => e ▸ (ih x).1 h⟩
  · rw [if_neg h, List.mem_append, List.mem_append, ih]
theorem nodup_dd {α : Type} [DecidableEq α] (l : List α) : (dd l).Nodup := by
  refine dd_ind (p := fun l d => d.Nodup) List.nodup_nil (fun l x ih => ?_) _ l rfl
  by_cases h : x ∈ dd l
  · rw [if_pos h]; exact ih
  · rw [if_neg h]
    refine List.nodup_append.mpr ⟨ih, by simp, fun a ha b hb => ?_⟩
    rw [List.mem_singleton] at hb
    subst hb
    rintro rfl
    exact h ha
theorem len_dd {α : Type} [DecidableEq α] (l : List α) : (dd l).length ≤ l.length := by
  refine dd_ind (p := fun l d => d.length ≤ l.length) (Nat.le_refl _) (fun l x ih => ?_) _ l rfl
  by_cases h : x ∈ dd l
  · rw [if_pos h, List.length_append]; omega
  · rw [if_neg h, List.length_append, List.length_append]; simp; omega
theorem dd_grow {α : Type} [DecidableEq α] : ∀ (b acc : List α), acc.length ≤ (b.foldl (fun acc k => if k ∈ acc then acc else acc ++ [k]) acc).length
  | [], acc => Nat.le_refl _
  | x :: b, acc => by
    rw [List.foldl_cons]
    refine Nat.le_trans ?_ (dd_grow b _)
    split
    · exact Nat.le_refl _
    · rw [List.length_append]; omega
theorem dd_take {α : Type} [DecidableEq α] (l : List α) (i : Nat) : (dd (l.take i)).length ≤ (dd l).length := by
  have e : dd l = (l.drop i).foldl (fun acc k => if k ∈ acc then acc else acc ++ [k]) (dd (l.take i)) := by
    unfold dd
    rw [← List.foldl_append, List.take_append_drop]
  rw [e]
  exact dd_grow _ _
theorem take_snoc {α : Type} {l : List α} {i : Nat} {x : α} (h : l[i]? = some x) : l.take (i + 1) = l.take i ++ [x] := by rw [List.take_add_one, h] <;> rfl
/-- set(xs), where a key stands for each -/
theorem add_z {P : Program} {w : World} {ks : List ZK} {S : Addr} (hb : ks.length < 4000) (items : Array Value) (hi : ∀ (i : Nat) (v : Value), items[i]? = some v → ∃ k : ZK, ks[i]? = some k ∧ zIs k v = true ∧ v.scannable = true) :
    ∀ (i : Nat) (v : Value) (A' : Around) (s' : Shared) (Q' : Bool → Shared → Prop) (E' : Value → Shared → Prop), items[i]? = some v → s'.heap.SetOf (zKind P w) S (fun j => decide (j ∈ ks.take i)) (dd (ks.take i)).length → (∀ b h', Heap.SameBut S s'.heap h' → h'.SetOf (zKind P w) S (fun j => decide (j ∈ ks.take (i + 1))) (dd (ks.take (i + 1))).length → Q' b { s' with heap := h', toks := s'.toks + 1 }) → wpAny (model P w) A' (setAdd S v) Q' E' s' := by
  intro i v A' s' Q' E' hv hS hQ
  obtain ⟨k, hk, hz, hsc⟩ := hi i v hv
  unfold setAdd
  refine wpAny_holding ?_
  refine wpAny_bind ((zKind P w).pyHash (k := k) hz ?_)
  have hl : (dd (ks.take i)).length ≤ ks.length := Nat.le_trans (len_dd _) (by rw [List.length_take]; omega)
  refine wpAny_setAddHashed_of (knd := zKind P w) (s := { s' with toks := s'.toks + 1 }) hz hsc hS (by unfold scanBound; omega) fun h' hsb hS2 => hQ _ h' hsb ?_
  refine PyProof.Rows.SetOf_congr hS2 (fun j => ?_) ?_
  · rw [take_snoc hk]; simp [List.mem_append]
  · rw [take_snoc hk, dd_snoc]
    by_cases hm : k ∈ ks.take i
    · rw [if_pos (decide_eq_true hm), if_pos ((mem_dd _ _).2 hm)]
    · rw [if_neg (by simpa using hm), if_neg (fun q => hm ((mem_dd _ _).1 q)), List.length_append] <;> rfl
theorem add_i {P : Program} {w : World} {ks : List Int} {S : Addr} (hb : (dd ks).length < 4000) (items : Array Value) (hi : ∀ (i : Nat) (v : Value), items[i]? = some v → ∃ (k : Int) (t : Tok), ks[i]? = some k ∧ v = Value.int k t) :
    ∀ (i : Nat) (v : Value) (A' : Around) (s' : Shared) (Q' : Bool → Shared → Prop) (E' : Value → Shared → Prop), items[i]? = some v → SetR w s'.heap S (fun j => decide (j ∈ ks.take i)) (dd (ks.take i)).length → (∀ b h', Heap.SameBut S s'.heap h' → SetR w h' S (fun j => decide (j ∈ ks.take (i + 1))) (dd (ks.take (i + 1))).length → Q' b { s' with heap := h', toks := s'.toks + 1 }) → wpAny (model P w) A' (setAdd S v) Q' E' s' := by
  intro i v A' s' Q' E' hv hS hQ
  obtain ⟨k, t, hk, rfl⟩ := hi i v hv
  unfold setAdd
  refine wpAny_holding ?_
  refine wpAny_bind ((intKind P w).pyHash (k := k) (intKind_is _ _ _ _) ?_)
  have hl : (dd (ks.take i)).length ≤ (dd ks).length := dd_take ks i
  refine setR_add_hashed (s := { s' with toks := s'.toks + 1 }) hS (by unfold scanBound; omega) fun h' hsb hS2 => hQ _ h' hsb ?_
  have e : (dd (ks.take (i + 1))).length = if decide (k ∈ ks.take i) = true then (dd (ks.take i)).length else (dd (ks.take i)).length + 1 := by
    rw [take_snoc hk, dd_snoc]
    by_cases hm : k ∈ ks.take i
    · rw [if_pos ((mem_dd _ _).2 hm), if_pos (decide_eq_true hm)]
    · rw [if_neg (fun q => hm ((mem_dd _ _).1 q)), if_neg (by simpa using hm), List.length_append] <;> rfl
  rw [e]
  exact hS2.congr fun j => by rw [take_snoc hk]; simp [List.mem_append]
theorem vals_get' {xs : List V} {us : List Value} {i : Nat} {u : Value} (r : Vals xs us) (h : us[i]? = some u) : ∃ x, xs[i]? = some x ∧ RelV x u := by
  cases hx : xs[i]? with
  | none => rw [r.none_of hx] at h; cases h
  | some x =>
    obtain ⟨v, hv, rv⟩ := r.get hx
    rw [h] at hv
    cases hv
    exact ⟨x, rfl, rv⟩
section
variable {X : Cx} {C : Addr} {E : XK} {a : Expr} {g : DE}
theorem ints_at {ns : List Int} {its : List Value} (r : Vals (ns.map V.int) its) : ∀ (i : Nat) (v : Value), its.toArray[i]? = some v → ∃ (k : Int) (t : Tok), ns[i]? = some k ∧ v = Value.int k t := fun i v hv => by
  have hv' : its[i]? = some v := by simpa using hv
  obtain ⟨x, hx, rx⟩ := vals_get' r hv'
  rw [List.getElem?_map] at hx
  cases hn : ns[i]? with
  | none => rw [hn] at hx; cases hx
  | some k => rw [hn] at hx; cases hx; obtain ⟨t, rfl⟩ := rx; exact ⟨k, t, rfl, rfl⟩
/-- set(xs) of numbers -/
def rSetI (K : PySem.W.Frag) (w : World) : List V → Hp → VK → Prop := fun vs H Q => ∃ (l : Addr) (ns : List Int), vs = [.ref l] ∧ (SqL K H l (ns.map V.int) ∨ SqT K H l (ns.map V.int)) ∧ (dd ns).length < 4000 ∧
  ∀ p, H p = none → Q (.ref p) (upd H p (SetO w p (fun j => decide (j ∈ ns)) (dd ns).length))
theorem cr_setI (hc : X.calm = true) : CallR X (.type "set") (rSetI X.K X.w) := by
  intro pins s σ H vs us Q I r ⟨l, ns, e, hq, hb, q⟩
  subst e
  rw [Vals.ref1 r]
  have fin : ∀ (its : List Value), Vals (ns.map V.int) its → ∀ (h' : Heap) (tk : Nat), SetR X.w h' s.heap.objs.size (fun j => decide (j ∈ ns.take its.toArray.size)) (dd (ns.take its.toArray.size)).length → (∀ b o, s.heap.get? b = some o → h'.get? b = some o) →
      EP X pins σ Q (.ref s.heap.objs.size) { s with heap := h', toks := tk } := fun its r h' tk R k => by
    have hl : its.toArray.size = ns.length := by rw [List.size_toArray, ← r.length, List.length_map]
    rw [hl, List.take_length] at R
    exact ⟨.ref _, upd H s.heap.objs.size (SetO X.w s.heap.objs.size (fun j => decide (j ∈ ns)) (dd ns).length), I.laid k (Nat.le_refl _) (setO_new R), rfl, q _ (I.hok.fresh (Nat.le_refl _))⟩
  rcases hq with hq | hq
  · obtain ⟨its, r, pl, hz⟩ := I.list hq
    exact call_set_list (RI := fun i h => SetR X.w h s.heap.objs.size (fun j => decide (j ∈ ns.take i)) (dd (ns.take i)).length) (I.ok.hd hc) pl.isList (fun i h h' k R => R.at k) (fun h e => setR_new_at e) (add_i hb _ (ints_at r)) (fun h' tk R k => fin its r h' tk R k)
  · obtain ⟨its, r, pl, hz⟩ := I.tuple hq
    exact call_set_tuple (RI := fun i h => SetR X.w h s.heap.objs.size (fun j => decide (j ∈ ns.take i)) (dd (ns.take i)).length) (I.ok.hd hc) pl (fun i h h' k R => R.at k) (fun h e => setR_new_at e) (add_i hb _ (ints_at r)) (fun h' tk R k => fin its r h' tk R k)
end
end KR
set_option Elab.async false
set_option linter.all false
set_option maxRecDepth 100000
set_option maxHeartbeats 2000000
namespace KR
open PySem PySem.Spec PyProof.Rows L2
def opSSet (o : Om) (x : D) : Option D := ((qv o x).bind allI).bind fun ns => if (dd ns).length < 64 then some (.lst ((srtI (dd ns)).map .int)) else none
def zk : D → Option ZK
  | .non => some .non
  | .bl b => some (.int (if b then 1 else 0))
  | .int i => some (.int i)
  | .str x => some (.str x)
  | _ => none
def allZ : List D → Option (List ZK)
  | [] => some []
  | d :: r => (zk d).bind fun k => (allZ r).map (k :: ·)
def opLSet (o : Om) (x : D) : Option D := ((lv o x).bind allZ).bind fun ks => if ks.length < 4000 then some (.int (dd ks).length) else none
theorem zk_is {K : PySem.W.Frag} {F : Hp} {B : List Addr} {v : V} {d : D} {k : ZK} {u : Value} (h : Is K F B v d) (q : zk d = some k) (r : RelV v u) : zIs k u = true ∧ u.scannable = true := by
  cases h with
  | non => cases q; cases r; exact ⟨rfl, rfl⟩
  | bl b => cases q; cases r; exact ⟨beq_self_eq_true _, rfl⟩
  | int i => cases q; obtain ⟨t, rfl⟩ := r; exact ⟨beq_self_eq_true _, rfl⟩
  | str i => cases q; obtain ⟨t, rfl⟩ := r; exact ⟨beq_self_eq_true _, rfl⟩
  | _ => cases q
theorem allZ_get : ∀ {ds : List D} {ks : List ZK} {i : Nat} {d : D}, allZ ds = some ks → ds[i]? = some d → ∃ k, ks[i]? = some k ∧ zk d = some k
  | [], ks, i, d, h, e => by simp at e
  | x :: r, ks, i, d, h, e => by
    unfold allZ at h
    cases q : zk x with
    | none => rw [q] at h; cases h
    | some k =>
      rw [q] at h
      cases q2 : allZ r with
      | none => simp [q2] at h
      | some ks' =>
        simp [q2] at h
        subst h
        cases i with
        | zero => simp at e; subst e; exact ⟨k, rfl, q⟩
        | succ j => exact allZ_get (i := j) q2 (by simpa using e)
theorem allZ_len : ∀ {ds : List D} {ks : List ZK}, allZ ds = some ks → ks.length = ds.length
  | [], ks, h => by cases h; rfl
  | x :: r, ks, h => by
    unfold allZ at h
    cases q : zk x with
    | none => rw [q] at h; cases h
    | some k =>
      rw [q] at h
      cases q2 : allZ r with
      | none => simp [q2] at h
      | some ks' =>
        simp [q2] at h
        subst h
        rw [List.length_cons, List.length_cons, allZ_len q2]
section
variable {X : Cx} {C : Addr} {E : XK} {a : Expr} {g : DE}
theorem eSSet {p p2 q pos : Pos} (hc : X.calm = true) (hm : X.mg "sorted" = none) (hm2 : X.mg "set" = none) (ha : EX X C E a g) (hg : Gl X "sorted" := by rfl) (hg2 : Gl X "set" := by rfl)
    (na : starEach [a] X.env = (false, eval a X.env) :: starEach [] X.env := by rfl) (nb : starEach [.Call (.Name "set" p2) [a] [] q] X.env = (false, eval (.Call (.Name "set" p2) [a] [] q) X.env) :: starEach [] X.env := by rfl) :
    EX X C E (.Call (.Name "sorted" p) [.Call (.Name "set" p2) [a] [] q] [] pos) (d1 opSSet g) :=
  PE.imp (pe_callB (cr_sortedSet hc) hg hm (by decide +kernel) (pa_cons (pe_callTy (cr_setI hc) hg2 hm2 (by decide +kernel) (pa_cons ha pa_nil na) (by decide) (by decide) na rfl) pa_nil nb) (by decide) (by decide) nb rfl) fun σ H Q ⟨F, B, ρ, o, e, s, n, c⟩ => by
    refine ⟨F, B, ρ, o, e, s, n, Con.then c fun x o1 F1 H1 B1 v st1 s1 i1 c1 => ?_⟩
    obtain ⟨z, hz, k⟩ := con_of c1 s1
    have hz' : (((qv o1 x).bind allI).bind fun ns => if (dd ns).length < 64 then some (D.lst ((srtI (dd ns)).map .int)) else none) = some z := hz
    cases q1 : qv o1 x with
    | none => rw [q1] at hz'; cases hz'
    | some ys =>
      rw [q1] at hz'
      cases q2 : allI ys with
      | none => simp [q2] at hz'
      | some ns =>
        simp only [Option.bind_some, q2] at hz'
        by_cases hl : (dd ns).length < 64
        · rw [if_pos hl] at hz'
          cases hz'
          obtain ⟨ad, vs, rfl, h1, h2⟩ := i1.qv s1 st1.fh q1
          rw [allI_is q2] at h2
          have e := h2.ints
          subst e
          refine ⟨ad, ns, rfl, h1, by omega, fun p hp => ⟨p, _, _, rfl, upd_same, hl, fun ns' p' hs hm hn hp' => ?_⟩⟩
          have g1 : Grow F1 H1 F1 (upd H1 p (SetO X.w p (fun j => decide (j ∈ ns)) (dd ns).length)) := Grow.hid st1.fh hp
          have pm : ns'.Perm (dd ns) := (List.perm_ext_iff_of_nodup (hs.imp fun h => Int.ne_of_lt h) (nodup_dd ns)).2 fun k => by rw [hm, mem_dd]; simp
          have e : ns' = srtI (dd ns) := srt_uniq (pm.trans (srtI_perm _).symm) (hs.imp fun h => Int.le_of_lt h) (srtI_srt _)
          subst e
          exact k _ _ _ (g1.trans (Grow.new (o := .lst ((srtI (dd ns)).map V.int)) g1.fh hp')) (.lst upd_same (isL_ints _))
        · rw [if_neg hl] at hz'; cases hz'
theorem eLSet {p p2 q pos : Pos} (hc : X.calm = true) (hm : X.mg "len" = none) (hm2 : X.mg "set" = none) (ha : EX X C E a g) (hg : Gl X "len" := by rfl) (hg2 : Gl X "set" := by rfl)
    (na : starEach [a] X.env = (false, eval a X.env) :: starEach [] X.env := by rfl) :
    EX X C E (.Call (.Name "len" p) [.Call (.Name "set" p2) [a] [] q] [] pos) (d1 opLSet g) := by
  refine ⟨fun pins s σ H Q I ⟨F, B, ρ, o, e, st, n, c⟩ => ?_⟩
  refine Call_ (ld_blt I hg hm boot_len ?_)
  refine PyProof.Rows.callWith_builtin1 (PyProof.Rows.args_cons ?_ rfl) rfl rfl
  refine Call_ (ld_blt I hg2 hm2 boot_set ?_)
  refine PyProof.Rows.callWith_type1 (PyProof.Rows.args_cons (thn (ha.run pins s σ H (fun v H' => ∃ F1 B1 o1 x, Store X.K C F1 B1 H' o1 ∧ Sub F1 H' ∧ Is X.K F1 B1 v x ∧ ∃ z, opLSet o1 x = some z ∧ ∀ v', Is X.K F1 B1 v' z → Q v' H') I ?_) fun v s1 ⟨x, H1, I1, r1, q1⟩ => PyProof.Rows.args_nil ?_) na) na rfl
  · refine ⟨F, B, ρ, o, e, st, n, Con.then c fun x o1 F1 H1 B1 v st1 s1 i1 c1 => ?_⟩
    obtain ⟨z, hz, k⟩ := con_of c1 s1
    exact ⟨F1, B1, o1, x, s1, st1.fh, i1, z, hz, fun v' i' => k _ _ _ (Grow.refl st1.fh) i'⟩
  obtain ⟨F1, B1, o1, d, s1', hs1, i1, z, hz, k⟩ := q1
  have hz' : (((lv o1 d).bind allZ).bind fun ks => if ks.length < 4000 then some (D.int (dd ks).length) else none) = some z := hz
  cases q1 : lv o1 d with
  | none => rw [q1] at hz'; cases hz'
  | some ys =>
    rw [q1] at hz'
    cases q2 : allZ ys with
    | none => simp [q2] at hz'
    | some ks =>
      simp only [Option.bind_some, q2] at hz'
      by_cases hl : ks.length < 4000
      · rw [if_pos hl] at hz'
        cases hz'
        obtain ⟨ad, vs, rfl, h1, h2⟩ := i1.lv s1' hs1 q1
        cases r1
        obtain ⟨its, r, pl, hzz⟩ := I1.list (SqL.of h1)
        have hn : its.toArray.size = ks.length := by rw [List.size_toArray, ← r.length, h2.length, allZ_len q2]
        refine call_set_list (RI := fun i h => h.SetOf (zKind X.prog X.w) s1.heap.objs.size (fun j => decide (j ∈ ks.take i)) (dd (ks.take i)).length) (I1.ok.hd hc) pl.isList (fun i h h' kk ⟨o, es, ep, t, ho, rr⟩ => ⟨o, es, ep, t, kk o ho, rr⟩)
          (fun h e => ⟨_, #[], 0, _, e, ⟨rfl, rfl, rfl⟩, rfl, (fun e he => by simp at he), (fun k => by simp), (by decide), (by rfl), rfl⟩) (add_z hl _ fun i u hu => ?_) fun h' tk hS hk => ?_
        · have hu' : its[i]? = some u := by simpa using hu
          obtain ⟨v, hv, rv⟩ := vals_get' r hu'
          obtain ⟨dd, hd, id⟩ := h2.get' hv
          obtain ⟨kk, hkk, hzk⟩ := allZ_get q2 hd
          exact ⟨kk, hkk, zk_is id hzk rv⟩
        · refine PyProof.Rows.args_nil ?_
          rw [hn, List.take_length] at hS
          obtain ⟨o, es, ep, t, ho, hex, hd, _, _, hb, hf, hn⟩ := hS
          have I2 : Inv X pins σ H1 { s1 with heap := h', toks := tk } := I1.kept hk
          exact call_len_set ho hex hd hf (by unfold scanBound at hb; omega) ⟨.int (dd ks).length, H1, I2.tok _, ⟨_, by rw [hn]⟩, k _ (.int _)⟩
      · rw [if_neg hl] at hz'; cases hz'
end
end KR
set_option Elab.async false
set_option linter.all false
set_option maxRecDepth 100000
set_option maxHeartbeats 2000000
namespace KR
open PySem PySem.Spec PyProof.Rows L2
section
variable {X : Cx} {C : Addr} {E : XK} {a b c d : Expr} {f g h i : DE} {fa : DA} {pos : Pos}
/-- what is never come to -/
def dDead : DS := fun _ _ => .bad
theorem sDead {st : Stmt} : ES X C E st dDead := ⟨fun pins s σ H D I ⟨F, B, ρ, o, e, st, n, c⟩ => c.elim⟩
theorem sDeads {sts : List Stmt} : ESs X C E sts dDead := ⟨fun pins s σ H D I ⟨F, B, ρ, o, e, st, n, c⟩ => c.elim⟩
/-! ### three comparisons in a row -/
def dChain3 (r r' r'' : Om → D → D → Option D) (f g h i : DE) : DE := fun ρ o => (f ρ o).bind fun x o1 => (g ρ o1).bind fun y o2 => (Res.of o2 ((r o2 x y).bind asB)).bind fun k o3 =>
  if k = true then (h ρ o3).bind fun z o4 => (Res.of o4 ((r' o4 y z).bind asB)).bind fun k2 o5 => if k2 = true then (i ρ o5).bind fun u o6 => .of o6 (r'' o6 z u) else .ok (.bl false) o5 else .ok (.bl false) o3
/-- a op1 b op2 c op3 d -/
def tChain3 (r r' r'' : R2) (ta tb tc td : TE) : TE := fun σ H Q => ta σ H fun x H1 => tb σ H1 fun y H2 => r x y H2 fun z H3 => ∃ k, z = .bl k ∧
  (if k = true then tc σ H3 fun w' H4 => r' y w' H4 fun z2 H5 => ∃ k2, z2 = .bl k2 ∧ (if k2 = true then td σ H5 fun u H6 => r'' w' u H6 Q else Q (.bl false) H5) else Q (.bl false) H3)
theorem pe_chain3 {op op' op'' : CmpOp} {r r' r'' : R2} {ta tb tc td : TE} (ho : OpR X (compareOp op) r) (ho' : OpR X (compareOp op') r') (ho'' : OpR X (compareOp op'') r'') (ha : PE X a ta) (hb : PE X b tb) (hc : PE X c tc) (hd : PE X d td)
    (hm : lastMarks [op, op', op''] [b, c, d] = false := by with_unfolding_all rfl) : PE X (.Compare a [op, op', op''] [b, c, d] pos) (tChain3 r r' r'' ta tb tc td) := by
  refine ⟨fun pins s σ H Q I h => ?_⟩
  refine Compare_chain (thn (ha.run pins s σ H _ I h) fun v s1 ⟨x, H1, I1, r1, q1⟩ => chain_link (thn (hb.run pins s1 σ H1 _ I1 q1) fun u s2 ⟨y, H2, I2, r2, q2⟩ =>
    thn (ho pins s2 σ H2 x y v u _ I2 r1 r2 q2) fun d s3 ⟨z, H3, I3, r3, k, e, q3⟩ => ?_)) hm
  subst e
  cases r3
  refine wpAny_truthy_bool ?_
  cases k with
  | false => exact ite_ff ⟨.bl false, H3, I3, rfl, q3⟩
  | true =>
    refine ite_tt (chain_link (thn (hc.run pins s3 σ H3 _ I3 q3) fun w' s4 ⟨z', H4, I4, r4, q4⟩ => thn (ho' pins s4 σ H4 y z' u w' _ I4 r2 r4 q4) fun d s5 ⟨z2, H5, I5, r5, k2, e2, q5⟩ => ?_))
    subst e2
    cases r5
    refine wpAny_truthy_bool ?_
    cases k2 with
    | false => exact ite_ff ⟨.bl false, H5, I5, rfl, q5⟩
    | true => exact ite_tt (chain_last (thn (hd.run pins s5 σ H5 _ I5 q5) fun u' s6 ⟨z3, H6, I6, r6, q6⟩ => ho'' pins s6 σ H6 z' z3 w' u' Q I6 r4 r6 q6))
theorem eChain3 {op op' op'' : CmpOp} {r r' r'' : Om → D → D → Option D} (ho : OpR X (compareOp op) (r2 X.K C r)) (ho' : OpR X (compareOp op') (r2 X.K C r')) (ho'' : OpR X (compareOp op'') (r2 X.K C r'')) (ha : EX X C E a f) (hb : EX X C E b g) (hc : EX X C E c h) (hd : EX X C E d i)
    (hm : lastMarks [op, op', op''] [b, c, d] = false := by with_unfolding_all rfl) : EX X C E (.Compare a [op, op', op''] [b, c, d] pos) (dChain3 r r' r'' f g h i) :=
  PE.imp (pe_chain3 ho ho' ho'' ha hb hc hd hm) fun σ H Q ⟨F, B, ρ, o, e, s, n, c⟩ => ⟨F, B, ρ, o, e, s, n, Con.then c fun x o1 F1 H1 B1 v st1 s1 i1 c1 => ⟨F1, B1, ρ, o1, st1.fh, s1, n.step st1, Con.then c1 fun y o2 F2 H2 B2 u st2 s2 i2 c2 => by
    cases q : r o2 x y with
    | none => rw [q] at c2; exact c2.elim
    | some z =>
      rw [q] at c2
      refine ⟨F2, B2, o2, x, y, z, st2.fh, s2, st2.is i1, i2, q, fun F3 H3 w g3 i3 => ?_⟩
      cases i3 with
      | bl k =>
        refine ⟨k, rfl, ?_⟩
        have c3 := Con.step c2 (Step.of g3)
        cases k with
        | true =>
          refine ⟨F3, B2, ρ, o2, g3.fh, s2.grow g3, (n.step st1).step (st2.trans (Step.of g3)), Con.then c3 fun z o4 F4 H4 B4 w st4 s4 i4 c4 => ?_⟩
          cases q4 : r' o4 y z with
          | none => rw [q4] at c4; exact c4.elim
          | some z4 =>
            rw [q4] at c4
            refine ⟨F4, B4, o4, y, z, z4, st4.fh, s4, ((Step.of g3).trans st4).is i2, i4, q4, fun F5 H5 w5 g5 i5 => ?_⟩
            cases i5 with
            | bl k5 =>
              refine ⟨k5, rfl, ?_⟩
              have c5 := Con.step c4 (Step.of g5)
              cases k5 with
              | true =>
                exact ⟨F5, B4, ρ, o4, g5.fh, s4.grow g5, (((n.step st1).step (st2.trans (Step.of g3))).step st4).step (Step.of g5), Con.then c5 fun z6 o6 F6 H6 B6 w6 st6 s6 i6 c6 => by
                  obtain ⟨z', hz, k⟩ := con_of c6 s6
                  exact ⟨F6, B6, o6, z, z6, z', st6.fh, s6, ((Step.of g5).trans st6).is i4, i6, hz, k⟩⟩
              | false => exact Con.pure (rel := Is X.K) c5 (Grow.refl g5.fh) (s4.grow g5) (.bl false)
            | _ => exact c4.elim
        | false => exact Con.pure (rel := Is X.K) c3 (Grow.refl g3.fh) (s2.grow g3) (.bl false)
      | _ => exact c2.elim⟩⟩
theorem chain3_imp {r r' r'' : Om → D → D → Option D} {σ : L2.St} {H : Hp} {Q : VK} : tE X.K C E (dChain3 r r' r'' f g h i) σ H Q → tChain3 (r2 X.K C r) (r2 X.K C r') (r2 X.K C r'') (tE X.K C E f) (tE X.K C E g) (tE X.K C E h) (tE X.K C E i) σ H Q :=
  fun ⟨F, B, ρ, o, e, s, n, c⟩ => ⟨F, B, ρ, o, e, s, n, Con.then c fun x o1 F1 H1 B1 v st1 s1 i1 c1 => ⟨F1, B1, ρ, o1, st1.fh, s1, n.step st1, Con.then c1 fun y o2 F2 H2 B2 u st2 s2 i2 c2 => by
    cases q : r o2 x y with
    | none => rw [q] at c2; exact c2.elim
    | some z =>
      rw [q] at c2
      refine ⟨F2, B2, o2, x, y, z, st2.fh, s2, st2.is i1, i2, q, fun F3 H3 w g3 i3 => ?_⟩
      cases i3 with
      | bl k =>
        refine ⟨k, rfl, ?_⟩
        have c3 := Con.step c2 (Step.of g3)
        cases k with
        | true =>
          refine ⟨F3, B2, ρ, o2, g3.fh, s2.grow g3, (n.step st1).step (st2.trans (Step.of g3)), Con.then c3 fun z o4 F4 H4 B4 w st4 s4 i4 c4 => ?_⟩
          cases q4 : r' o4 y z with
          | none => rw [q4] at c4; exact c4.elim
          | some z4 =>
            rw [q4] at c4
            refine ⟨F4, B4, o4, y, z, z4, st4.fh, s4, ((Step.of g3).trans st4).is i2, i4, q4, fun F5 H5 w5 g5 i5 => ?_⟩
            cases i5 with
            | bl k5 =>
              refine ⟨k5, rfl, ?_⟩
              have c5 := Con.step c4 (Step.of g5)
              cases k5 with
              | true =>
                exact ⟨F5, B4, ρ, o4, g5.fh, s4.grow g5, (((n.step st1).step (st2.trans (Step.of g3))).step st4).step (Step.of g5), Con.then c5 fun z6 o6 F6 H6 B6 w6 st6 s6 i6 c6 => by
                  obtain ⟨z', hz, k⟩ := con_of c6 s6
                  exact ⟨F6, B6, o6, z, z6, z', st6.fh, s6, ((Step.of g5).trans st6).is i4, i6, hz, k⟩⟩
              | false => exact Con.pure (rel := Is X.K) c5 (Grow.refl g5.fh) (s4.grow g5) (.bl false)
            | _ => exact c4.elim
        | false => exact Con.pure (rel := Is X.K) c3 (Grow.refl g3.fh) (s2.grow g3) (.bl false)
      | _ => exact c2.elim⟩⟩
theorem chain_imp {r r' : Om → D → D → Option D} {σ : L2.St} {H : Hp} {Q : VK} : tE X.K C E (dChain r r' f g h) σ H Q → tChain (r2 X.K C r) (r2 X.K C r') (tE X.K C E f) (tE X.K C E g) (tE X.K C E h) σ H Q :=
  fun ⟨F, B, ρ, o, e, s, n, c⟩ => ⟨F, B, ρ, o, e, s, n, Con.then c fun x o1 F1 H1 B1 v st1 s1 i1 c1 => ⟨F1, B1, ρ, o1, st1.fh, s1, n.step st1, Con.then c1 fun y o2 F2 H2 B2 u st2 s2 i2 c2 => by
    cases q : r o2 x y with
    | none => rw [q] at c2; exact c2.elim
    | some z =>
      rw [q] at c2
      refine ⟨F2, B2, o2, x, y, z, st2.fh, s2, st2.is i1, i2, q, fun F3 H3 w g3 i3 => ?_⟩
      cases i3 with
      | bl k =>
        refine ⟨k, rfl, ?_⟩
        have c3 := Con.step c2 (Step.of g3)
        cases k with
        | true => exact ⟨F3, B2, ρ, o2, g3.fh, s2.grow g3, (n.step st1).step (st2.trans (Step.of g3)), Con.then c3 fun z o4 F4 H4 B4 w st4 s4 i4 c4 => by
            obtain ⟨z', hz, k⟩ := con_of c4 s4
            exact ⟨F4, B4, o4, y, z, z', st4.fh, s4, ((Step.of g3).trans st4).is i2, i4, hz, k⟩⟩
        | false => exact Con.pure (rel := Is X.K) c3 (Grow.refl g3.fh) (s2.grow g3) (.bl false)
      | _ => exact c2.elim⟩⟩
theorem cmp_imp {r : Om → D → D → Option D} {σ : L2.St} {H : Hp} {Q : VK} : tE X.K C E (d2 r f g) σ H Q → tOp (r2 X.K C r) (tE X.K C E f) (tE X.K C E g) σ H Q :=
  fun ⟨F, B, ρ, o, e, s, n, c⟩ => ⟨F, B, ρ, o, e, s, n, Con.then c fun x o1 F1 H1 B1 v st1 s1 i1 c1 => ⟨F1, B1, ρ, o1, st1.fh, s1, n.step st1, Con.then c1 fun y o2 F2 H2 B2 u st2 s2 i2 c2 => by
    obtain ⟨z, hz, k⟩ := con_of c2 s2
    exact ⟨F2, B2, o2, x, y, z, st2.fh, s2, st2.is i1, i2, hz, k⟩⟩⟩
theorem dT_to {σ : L2.St} {H : Hp} {Q : Bool → Hp → Prop} : tT X.K C E (dT f) σ H Q → tE X.K C E f σ H (fun x H' => ∃ k, x = .bl k ∧ Q k H') :=
  fun ⟨F, B, ρ, o, e, s, n, c⟩ => ⟨F, B, ρ, o, e, s, n, Con.then c fun x o1 F1 H1 B1 v st1 s1 i1 c1 => by
    cases i1 with
    | bl b => exact ⟨b, rfl, Con.pure (rel := relB) c1 (Grow.refl st1.fh) s1 rfl⟩
    | _ => exact c1.elim⟩
theorem tCmp {op : CmpOp} {r : Om → D → D → Option D} (ho : OpR X (compareOp op) (r2 X.K C r)) (ha : EX X C E a f) (hb : EX X C E b g) (hm : behindInMarks op b = false := by first | exact nomark _ | rfl) : ET X C E (.Compare a [op] [b] pos) (dT (d2 r f g)) :=
  PT.imp (pt_cmpR ho ha hb hm) fun σ H Q h => cmp_imp (dT_to h)
theorem tChainT {op op' : CmpOp} {r r' : Om → D → D → Option D} (ho : OpR X (compareOp op) (r2 X.K C r)) (ho' : OpR X (compareOp op') (r2 X.K C r')) (ha : EX X C E a f) (hb : EX X C E b g) (hc : EX X C E c h) (hm : lastMarks [op, op'] [b, c] = false := by with_unfolding_all rfl) :
    ET X C E (.Compare a [op, op'] [b, c] pos) (dT (dChain r r' f g h)) :=
  PT.imp (pt_chain ho ho' ha hb hc hm) fun σ H Q h => chain_imp (dT_to h)
theorem pt_chain3 {op op' op'' : CmpOp} {r r' r'' : R2} {ta tb tc td : TE} (ho : OpR X (compareOp op) r) (ho' : OpR X (compareOp op') r') (ho'' : OpR X (compareOp op'') r'') (ha : PE X a ta) (hb : PE X b tb) (hc : PE X c tc) (hd : PE X d td)
    (hm : lastMarks [op, op', op''] [b, c, d] = false := by with_unfolding_all rfl) : PT X (.Compare a [op, op', op''] [b, c, d] pos) (tTest (tChain3 r r' r'' ta tb tc td)) := by
  refine ⟨fun pins s σ H Q I h => ?_⟩
  refine isTrue_chain (thn (ha.run pins s σ H _ I h) fun v s1 ⟨x, H1, I1, r1, q1⟩ => test_link (thn (hb.run pins s1 σ H1 _ I1 q1) fun u s2 ⟨y, H2, I2, r2, q2⟩ =>
    thn (ho pins s2 σ H2 x y v u _ I2 r1 r2 q2) fun d s3 ⟨z, H3, I3, r3, k, e, q3⟩ => ?_)) hm
  subst e
  cases r3
  refine wpAny_truthy_bool ?_
  cases k with
  | false =>
    obtain ⟨k', e', q'⟩ := q3
    cases e'
    exact ite_ff ⟨H3, I3, q'⟩
  | true =>
    refine ite_tt (test_link (thn (hc.run pins s3 σ H3 _ I3 q3) fun w' s4 ⟨z', H4, I4, r4, q4⟩ => thn (ho' pins s4 σ H4 y z' u w' _ I4 r2 r4 q4) fun d s5 ⟨z2, H5, I5, r5, k2, e2, q5⟩ => ?_))
    subst e2
    cases r5
    refine wpAny_truthy_bool ?_
    cases k2 with
    | false =>
      obtain ⟨k', e', q'⟩ := q5
      cases e'
      exact ite_ff ⟨H5, I5, q'⟩
    | true =>
      refine ite_tt (test_last (thn (hd.run pins s5 σ H5 _ I5 q5) fun u' s6 ⟨z3, H6, I6, r6, q6⟩ => thn (ho'' pins s6 σ H6 z' z3 w' u' _ I6 r4 r6 q6) fun d' s7 ⟨z7, H7, I7, r7, k7, e7, q7⟩ => ?_))
      subst e7
      cases r7
      exact wpAny_truthy_bool ⟨H7, I7, q7⟩
theorem tChain3T {op op' op'' : CmpOp} {r r' r'' : Om → D → D → Option D} (ho : OpR X (compareOp op) (r2 X.K C r)) (ho' : OpR X (compareOp op') (r2 X.K C r')) (ho'' : OpR X (compareOp op'') (r2 X.K C r'')) (ha : EX X C E a f) (hb : EX X C E b g) (hc : EX X C E c h) (hd : EX X C E d i)
    (hm : lastMarks [op, op', op''] [b, c, d] = false := by with_unfolding_all rfl) : ET X C E (.Compare a [op, op', op''] [b, c, d] pos) (dT (dChain3 r r' r'' f g h i)) :=
  PT.imp (pt_chain3 ho ho' ho'' ha hb hc hd hm) fun σ H Q h => chain3_imp (dT_to h)
/-! ### isinstance(x, T) -/
inductive Ty where
  | non | bl | int | str | lst | tup | dict
deriving DecidableEq
def Ty.nm : Ty → String
  | .non => "NoneType"
  | .bl => "bool"
  | .int => "int"
  | .str => "str"
  | .lst => "list"
  | .tup => "tuple"
  | .dict => "dict"
def Ty.sub : Ty → Ty → Bool
  | .bl, .int => true
  | a, b => a == b
theorem kit_ty (K : PySem.W.Frag) (a b : Ty) : PySem.W.kitOne K (.type a.nm) (.type b.nm) = some (a.sub b) := by
  cases a <;> cases b <;> kernel_rfl
def tyD (o : Om) : D → Option Ty
  | .non => some .non
  | .bl _ => some .bl
  | .int _ => some .int
  | .str _ => some .str
  | .lst _ => some .lst
  | .tup _ => some .tup
  | .obj n => match o[n]? with
    | some (.ml _) => some .lst
    | _ => none
  | _ => none
def opIsi (T : Ty) (o : Om) (x : D) : Option D := (tyD o x).map fun a => .bl (a.sub T)
theorem tyD_is {K : PySem.W.Frag} {F H : Hp} {B : List Addr} {o : Om} {v : V} {x : D} {a : Ty} (s : Store K C F B H o) (hs : Sub F H) (i : Is K F B v x) (q : tyD o x = some a) : TyX K H v (.type a.nm) := by
  cases i with
  | non => cases q; exact .base .non
  | bl b => cases q; exact .base (.bl b)
  | int b => cases q; exact .base (.int b)
  | str b => cases q; exact .base (.str b)
  | lst h1 h2 => cases q; exact .base (.lst (hs _ _ h1))
  | tup h1 h2 => cases q; exact .base (.tup (hs _ _ h1))
  | scr h1 => cases q
  | exn h1 => cases q
  | @obj ad n h1 =>
    cases hy : o[n]? with
    | none => simp [tyD, hy] at q
    | some mo =>
      cases mo with
      | ml ys =>
        simp [tyD, hy] at q
        subst q
        obtain ⟨_, vs, h2, h3⟩ := s.obj h1 hy
        exact .base (.lst h2)
      | _ => simp [tyD, hy] at q
theorem eIsi {x : Str} {p p2 : Pos} (T : Ty) (hm : X.mg "isinstance" = none) (hm2 : X.mg x = none) (hv : bootBuiltins x = some (.type T.nm)) (ha : EX X C E a f) (hg : Gl X "isinstance" := by rfl) (hg2 : Gl X x := by rfl) (hn : x ≠ "__name__" := by decide) (hdb : (x == ("__debug__" : Str)) = false := by decide)
    (na : starEach [a, .Name x p2] X.env = (false, eval a X.env) :: starEach [.Name x p2] X.env := by rfl) (nb : starEach [.Name x p2] X.env = (false, eval (.Name x p2) X.env) :: starEach [] X.env := by rfl) (npl : (backTo pos (starEach [.Name x p2] X.env)).any (·.1) = false := by rfl) :
    EX X C E (.Call (.Name "isinstance" p) [a, .Name x p2] [] pos) (d1 (opIsi T) f) :=
  PE.imp (pe_callB call_isi hg hm boot_isinstance (pa_cons ha (pa_cons (pe_bltn (v := .ty T.nm) hg2 hm2 hv rfl hn hdb) pa_nil nb) na) (by decide) (by decide) na npl) fun σ H Q ⟨F, B, ρ, o, e, s, n, c⟩ => ⟨F, B, ρ, o, e, s, n, Con.then c fun x o1 F1 H1 B1 v st1 s1 i1 c1 => by
    obtain ⟨z, hz, k⟩ := con_of c1 s1
    have hz' : ((tyD o1 x).map fun a => D.bl (a.sub T)) = some z := hz
    cases q : tyD o1 x with
    | none => rw [q] at hz'; cases hz'
    | some t =>
      rw [q] at hz'
      cases hz'
      exact ⟨v, .ty T.nm, .type t.nm, .type T.nm, t.sub T, rfl, .ty _, tyD_is s1 st1.fh i1 q, kit_ty _ _ _, k _ _ _ (Grow.refl st1.fh) (.bl _)⟩⟩
/-! ### more methods of lists behind handles -/
def mPopAt (xs ds : List D) : Option (List D × D) := match ds with
  | [.int i] => if 0 ≤ i ∧ i < 1000 then (xs[i.toNat]?).map fun y => (xs.eraseIdx i.toNat, y) else none
  | _ => none
theorem IsL.erase {K : PySem.W.Frag} {F : Hp} {B : List Addr} : ∀ {vs : List V} {xs : List D} (n : Nat), IsL K F B vs xs → IsL K F B (vs.eraseIdx n) (xs.eraseIdx n)
  | _, _, n, .nil => by simp; exact .nil
  | _, _, 0, .cons _ h2 => h2
  | _, _, n + 1, .cons h1 h2 => .cons h1 (IsL.erase n h2)
theorem m_popAt : MtOk X.K C rPopAt mPopAt := by
  intro F H B p vs xs as ds ys z Q hF hH il ia hop k
  match ds, hop with
  | [.int j], hop =>
    have hop' : (if 0 ≤ j ∧ j < 1000 then (xs[j.toNat]?).map fun y => (xs.eraseIdx j.toNat, y) else none) = some (ys, z) := hop
    obtain ⟨v, rfl, i⟩ := one_of ia
    cases i with
    | int _ =>
    by_cases hl : 0 ≤ j ∧ j < 1000
    · rw [if_pos hl] at hop'
      cases q : xs[j.toNat]? with
      | none => rw [q] at hop'; cases hop'
      | some y =>
        rw [q] at hop'
        cases hop'
        obtain ⟨u, hu, iu⟩ := il.get q
        have hlt : j.toNat < vs.length := (List.getElem?_eq_some_iff.mp hu).1
        refine ⟨p, vs, j, j.toNat, u, rfl, rfl, hH, by omega, by omega, ?_, hu, k _ _ (il.erase _) iu⟩
        unfold seqIndex?
        have h1 : ¬ j < 0 := by omega
        simp [h1]
        omega
    · rw [if_neg hl] at hop'; cases hop'
def mInsert (xs ds : List D) : Option (List D × D) := match ds with
  | [.int i, y] => if 0 ≤ i ∧ i < 1000 ∧ xs.length < 1000 then some (xs.take i.toNat ++ [y] ++ xs.drop i.toNat, .non) else none
  | _ => none
theorem m_insert : MtOk X.K C (fun x vs H Q => ∃ (l : Addr) (xs : List V) (i : Int) (y : V), x = .ref l ∧ vs = [.int i, y] ∧ H l = some (.lst xs) ∧ xs.length < sizeLine ∧ 0 ≤ i ∧ i < 2 ^ 63 ∧
    Q .non (upd H l (.lst (xs.take i.toNat ++ [y] ++ xs.drop i.toNat)))) mInsert := by
  intro F H B p vs xs as ds ys z Q hF hH il ia hop k
  match ds, hop with
  | [.int j, y], hop =>
    have hop' : (if 0 ≤ j ∧ j < 1000 ∧ xs.length < 1000 then some (xs.take j.toNat ++ [y] ++ xs.drop j.toNat, D.non) else none) = some (ys, z) := hop
    obtain ⟨v, w, rfl, i, i2⟩ := two_of ia
    cases i with
    | int _ =>
    by_cases hl : 0 ≤ j ∧ j < 1000 ∧ xs.length < 1000
    · rw [if_pos hl] at hop'
      cases hop'
      exact ⟨p, vs, j, w, rfl, rfl, hH, Nat.lt_of_lt_of_le (by rw [il.length]; exact hl.2.2) (by decide : 1000 ≤ sizeLine), hl.1, by omega, k _ _ (((il.take _).append (.cons i2 .nil)).append (il.drop _)) .non⟩
    · rw [if_neg hl] at hop'; cases hop'
/-! a method without arguments -/
def dBM0 (op : List D → List D → Option (List D × D)) (g : DE) : DE := fun ρ o => (g ρ o).bind fun x o2 => match hv o2 x with
  | some (n, xs) => match op xs [] with
    | some (ys, z) => .ok z (o2.set n (.ml ys))
    | none => .bad
  | none => .bad
theorem eBM0 {id : String} {r : V → List V → Hp → VK → Prop} {op : List D → List D → Option (List D × D)} {name : Str} {o0 : Expr} {apos : Pos} (mo : MtOk X.K C r op) (slot : Slot "list" name id) (hty : typeOf (.builtin id) = pure (.type "method_descriptor")) (hm : MtR X id r) (ho : EX X C E o0 g)
    (hbase : attributeBase o0 name X.env (eval o0 X.env) = eval o0 X.env := by rfl) (hline : (apos.endLine == pos.line) = true := by rfl) : EX X C E (.Call (.Attribute o0 name apos) [] [] pos) (dBM0 op g) := by
  refine PE.imp (pe_bm0 PySem.F.plainAttrs_list slot hty hm ho hbase hline) fun σ H Q ⟨F, B, ρ, o, e, s, n, c⟩ => ⟨F, B, ρ, o, e, s, n, Con.then c fun x o2 F2 H2 B2 v st2 s2 i2 c2 => ?_⟩
  cases q : hv o2 x with
  | none => rw [q] at c2; exact c2.elim
  | some pr =>
    obtain ⟨m, xs⟩ := pr
    rw [q] at c2
    simp only at c2
    cases q2 : op xs [] with
    | none => rw [q2] at c2; exact c2.elim
    | some pz =>
      obtain ⟨ys, z⟩ := pz
      rw [q2] at c2
      obtain ⟨ad, vs, e1, hB, ho2, rfl, hF, hH, il⟩ := i2.hv s2 q
      refine ⟨.inl ⟨rfl, vs, SqL.of hH⟩, mo F2 H2 B2 ad vs xs [] [] ys z Q hF hH il .nil q2 fun vs' w il' iw => ?_⟩
      have st := Step.put (x := .lst vs') (Step.refl st2.fh) hB hF
      exact c2 F2 _ B2 w st (s2.put hB hF il') iw
def mClear (xs ds : List D) : Option (List D × D) := match ds with
  | [] => some ([], .non)
  | _ => none
theorem m_clear : MtOk X.K C rClear mClear := by
  intro F H B p vs xs as ds ys z Q hF hH il ia hop k
  cases ia with
  | nil => cases hop; exact ⟨p, vs, rfl, rfl, hH, k _ _ .nil .non⟩
  | cons _ _ => cases hop
/-! list(x), list(range(n)) behind a handle -/
def dListH (f : DE) : DE := fun ρ o => (f ρ o).bind fun x o1 => match qv o1 x with
  | some xs => if xs.length ≤ 1000 then .ok (.obj o1.length) (o1 ++ [.ml xs]) else .bad
  | none => .bad
theorem eListH {x : Str} {p : Pos} (hx : x = "list") (hm : X.mg x = none) (ha : EX X C E a f) (hg : Gl X x := by rfl)
    (he : starEach [a] X.env = (false, eval a X.env) :: starEach [] X.env := by rfl) : EX X C E (.Call (.Name x p) [a] [] pos) (dListH f) := by
  subst hx
  refine PE.imp (pe_callTy call_list_of hg hm (by decide +kernel) (pa_cons ha pa_nil he) (by decide) (by decide) he rfl) fun σ H Q ⟨F, B, ρ, o, e, s, n, c⟩ => ⟨F, B, ρ, o, e, s, n, Con.then c fun x o1 F1 H1 B1 v st1 s1 i1 c1 => ?_⟩
  cases q : qv o1 x with
  | none => rw [q] at c1; exact c1.elim
  | some ys =>
    rw [q] at c1
    simp only at c1
    by_cases hl : ys.length ≤ 1000
    · rw [if_pos hl] at c1
      obtain ⟨ad, vs, rfl, h1, h2⟩ := i1.qv s1 st1.fh q
      refine ⟨ad, vs, rfl, h1, fun p hp => ?_⟩
      have g := Grow.hid (o := .lst vs) st1.fh hp
      have sp : Step F1 H1 B1 F1 _ (B1 ++ [p]) := Step.push g hp
      have ss : Store X.K C F1 (B1 ++ [p]) _ (o1 ++ [.ml ys]) := s1.push g hp (by rw [upd_same]; exact fun z => nomatch z) ⟨sub_none st1.fh hp, vs, upd_same, sp.isL h2⟩
      exact c1 F1 _ (B1 ++ [p]) _ sp ss (.obj (by rw [← s1.len]; exact getlast _ _))
    · rw [if_neg hl] at c1; exact c1.elim
def dLRgH (f : DE) : DE := fun ρ o => (f ρ o).bind fun x o1 => match x with
  | .int n => if n ≤ 1000 ∧ -1000 ≤ n then .ok (.obj o1.length) (o1 ++ [.ml (rangeD 0 n)]) else .bad
  | _ => .bad
theorem eLRgH {p p2 q : Pos} (hc : X.calm = true) (hm : X.mg "list" = none) (hm2 : X.mg "range" = none) (ha : EX X C E a g) (hg : Gl X "list" := by rfl) (hg2 : Gl X "range" := by rfl)
    (na : starEach [a] X.env = (false, eval a X.env) :: starEach [] X.env := by rfl) (nb : starEach [.Call (.Name "range" p2) [a] [] q] X.env = (false, eval (.Call (.Name "range" p2) [a] [] q) X.env) :: starEach [] X.env := by rfl) :
    EX X C E (.Call (.Name "list" p) [.Call (.Name "range" p2) [a] [] q] [] pos) (dLRgH g) :=
  PE.imp (pe_listRg hc hg hm (prg_1 hg2 hm2 ha na) nb) fun σ H Q ⟨F, B, ρ, o, e, s, n, c⟩ => ⟨F, B, ρ, o, e, s, n, Con.then c fun x o1 F1 H1 B1 v st1 s1 i1 c1 => by
    cases i1 with
    | int j =>
      have c1' : Con X.K C (Is X.K) E F1 H1 B1 Q (if j ≤ 1000 ∧ -1000 ≤ j then .ok (.obj o1.length) (o1 ++ [.ml (rangeD 0 j)]) else .bad) := c1
      by_cases hj : j ≤ 1000 ∧ -1000 ≤ j
      · rw [if_pos hj] at c1'
        refine ⟨j, rfl, ⟨by omega, by omega, by omega, by omega, by omega⟩, fun p hp => ?_⟩
        have g := Grow.hid (o := .lst (rgV 0 j)) st1.fh hp
        have sp : Step F1 H1 B1 F1 _ (B1 ++ [p]) := Step.push g hp
        have ss : Store X.K C F1 (B1 ++ [p]) _ (o1 ++ [.ml (rangeD 0 j)]) := s1.push g hp (by rw [upd_same]; exact fun z => nomatch z) ⟨sub_none st1.fh hp, rgV 0 j, upd_same, isL_rg 0 j⟩
        exact c1' F1 _ (B1 ++ [p]) _ sp ss (.obj (by rw [← s1.len]; exact getlast _ _))
      · rw [if_neg hj] at c1'; exact c1'.elim
    | _ => exact c1.elim⟩
end
end KR
set_option Elab.async false
set_option linter.all false
set_option maxRecDepth 100000
set_option maxHeartbeats 4000000
namespace KR
open PySem PySem.Spec PyProof.Rows L2
/-! ### list.count, list.index of a list of leaves -/
def rCntF (K : PySem.W.Frag) : V → List V → Hp → VK → Prop := fun x xs H Q => ∃ (a : Addr) (ys : List V) (y : V), x = .ref a ∧ xs = [y] ∧ SqL K H a ys ∧ flatV y = true ∧ ys.all flatV = true ∧ Q (.int (ys.countP fun z => eqV z y : Nat)) H
theorem countP_vals {y : V} : ∀ {vs : List V} {us : List Value}, Vals vs us → vs.all flatV = true → us.countP (eqU y) = vs.countP fun z => eqV z y
  | _, _, .nil, _ => rfl
  | _, _, .cons (a := v) (b := u) r t, f => by
    rw [List.all_cons, Bool.and_eq_true] at f
    rw [List.countP_cons, List.countP_cons, countP_vals t f.2, eqU_of r f.1]
theorem mt_countF {X : Cx} : MtR X "list.count" (rCntF X.K) := by
  intro pins s σ H x xs v us Q I rx rxs h
  obtain ⟨a, ys, y, rfl, rfl, hs, fy, fys, q⟩ := h
  cases rx
  obtain ⟨uy, rfl, ry⟩ := rxs.one
  obtain ⟨its, rv, ⟨⟨cls, dd, data, sl⟩, n, ho, hc, hdn, hd⟩, hlen⟩ := I.list hs
  simp only at hc hd
  subst hc hd
  refine call_meets PySem.F.slot_list_count ⟨_, ho, rfl⟩ PySem.F.entry_list_count (PySem.F.args_list_count_2 _ _) (SeqAt.list_countAt a its.toArray n dd sl uy (eqU y)) ⟨ho, fun u' hu' => mem_eqAt ry fy rv fys u' (by simpa using hu'), ?_⟩
  refine ⟨.int (ys.countP fun z => eqV z y : Nat), H, I.tok _, ⟨s.toks, ?_⟩, q⟩
  show Value.int ((its.toArray.toList.countP (eqU y) : Nat) : Int) s.toks = _
  rw [show its.toArray.toList = its by simp, countP_vals rv fys]
/-! ### a caught exception: its class, its field -/
def rIsX (K : PySem.W.Frag) (a D : Addr) (d : Option Addr) : List V → Hp → VK → Prop := fun xs H Q => ∃ (c : V) (cv : Value) (b : Bool), xs = [.ref a, c] ∧ (∀ u, RelV c u → u = cv) ∧ PySem.W.kitOne K (.ref D) cv = some b ∧ (∀ dd, d = some dd → ∃ fs, H dd = some (.xd fs)) ∧ Q (.bl b) H
theorem call_isX {X : Cx} {a D : Addr} {d : Option Addr} {oe : Obj} {pn : List (Addr × Obj)} (T : ExcC X.K D) (z : Zc (.ref D) d oe) (fl : ∃ vs, oe.data = .fields vs) : CallR (X.suite a ((a, oe) :: pn)) (.builtin "isinstance") (rIsX X.K a D d) := by
  rintro pins s σ H xs us Q I r ⟨c, cv, b, rfl, same, kit, told, q⟩
  obtain ⟨u1, u2, rfl, r1, r2⟩ := vals2 r
  obtain rfl : u1 = Value.ref a := r1
  have e2 := same _ r2
  subst e2
  obtain ⟨here, _⟩ := I.pin (a, oe) (List.mem_append.mpr (.inl List.mem_cons_self))
  obtain ⟨vs, hv⟩ := fl
  have plain : PySem.W.notCls oe = true := by unfold PySem.W.notCls; rw [hv] <;> rfl
  have inst : ∃ od, PySem.W.InstAt s.heap a oe D od := by
    cases d with
    | none => exact ⟨none, here, z.1, plain, by rw [z.2]; trivial⟩
    | some dd =>
      obtain ⟨fs, hx⟩ := told dd rfl
      obtain ⟨mA, ns, _⟩ := (I.hok dd _ hx : ObjOk X.prog X.w H s.heap dd (.xd fs))
      obtain ⟨od, ho, _⟩ := lookIn_ns ns
      exact ⟨some od, here, z.1, plain, by rw [z.2]; exact ho⟩
  obtain ⟨od, J⟩ := inst
  have cls : (PySem.W.clsIn X.K D).isSome = true := by
    obtain ⟨cd, hc, _⟩ := PySem.W.any_some T.hd
    rw [hc]; rfl
  exact PySem.W.kia_one (PySem.W.kitx_exc cls T.hg T.hk T.hs T.ha T.hn T.ht T.hm) I.kIn J kit (fun z => nomatch z) fun tk => ⟨.bl b, H, I.kept (t' := tk) fun _ _ z => z, rfl, q⟩
def sixN : List Str := ["BadBook", "BadKey", "NoOne", "BadPlace", "BadTimes", "NoMoment"]
theorem Xc.six (x : Xc) : x.nm ∈ sixN := by cases x <;> simp [Xc.nm, sixN]
/-- what is asked of the package's exception classes -/
structure Exs (K : PySem.W.Frag) : Prop where
  c : ∀ n ∈ sixN, ExcC K (He.ga K n)
  own : ∀ n ∈ sixN, ∀ m ∈ sixN, PySem.W.kitOne K (.ref (He.ga K n)) (.ref (He.ga K m)) = some (n == m)
  ve : ∀ n ∈ sixN, PySem.W.kitOne K (.ref (He.ga K n)) (.type "ValueError") = some true
  ke : ∀ n ∈ sixN, PySem.W.exmOne K (.ref (He.ga K n)) (.ref (He.ga K "KeyrollError")) = some true
  word : ∀ n ∈ sixN, PySem.W.findIn K (.ref (He.ga K n)) "word" = some none
  place : ∀ n ∈ sixN, PySem.W.findIn K (.ref (He.ga K n)) "place" = some none
theorem Exs.xf {K : PySem.W.Frag} (x : Exs K) {n : Str} (h : n ∈ sixN) : XfC K (He.ga K n) := ⟨(x.c n h).hg, (x.c n h).hk, (x.c n h).hs, (x.c n h).hd⟩
def excCB (K : PySem.W.Frag) (D : Addr) : Bool := He.eqO (PySem.W.findIn K (.ref D) "__getattribute__") (some (some (.builtin "BaseException.__getattribute__"))) && (He.eqO (PySem.W.findIn K (.ref D) "__getattr__") (some none) &&
  (decide (PySem.W.subIn K (.ref D) (.type "BaseException") = some true) && (PySem.W.hasDictIn K D && (He.eqO (PySem.W.findIn K (.ref D) "__class__") (some (some (.builtin "object.__class__"))) &&
  (He.eqO (PySem.W.specialIn K (.builtin "object.__class__") "__get__") (some (some (.builtin "getset_descriptor.__get__"))) && (decide (PySem.W.takesIn K (.builtin "object.__class__") = some true) && decide (PySem.W.mroIn K D (.type "object") = some true)))))))
theorem excCB_ok {K : PySem.W.Frag} {D : Addr} (h : excCB K D = true) : ExcC K D := by
  unfold excCB at h
  simp only [Bool.and_eq_true, decide_eq_true_eq] at h
  obtain ⟨h1, h2, h3, h4, h5, h6, h7, h8⟩ := h
  exact ⟨He.eqO_ok h1, He.eqO_ok h2, h3, h4, He.eqO_ok h5, He.eqO_ok h6, h7, h8⟩
def exsB (K : PySem.W.Frag) : Bool := (sixN.all fun n => excCB K (He.ga K n) && ((sixN.all fun m => decide (PySem.W.kitOne K (.ref (He.ga K n)) (.ref (He.ga K m)) = some (n == m))) && (decide (PySem.W.kitOne K (.ref (He.ga K n)) (.type "ValueError") = some true) &&
  (decide (PySem.W.exmOne K (.ref (He.ga K n)) (.ref (He.ga K "KeyrollError")) = some true) && (He.eqO (PySem.W.findIn K (.ref (He.ga K n)) "word") (some none) && He.eqO (PySem.W.findIn K (.ref (He.ga K n)) "place") (some none))))))
theorem exsB_ok {K : PySem.W.Frag} (h : exsB K = true) : Exs K := by
  unfold exsB at h
  rw [List.all_eq_true] at h
  have g : ∀ n ∈ sixN, _ := fun n hn => h n hn
  simp only [Bool.and_eq_true, decide_eq_true_eq, List.all_eq_true] at g
  exact ⟨fun n hn => excCB_ok (g n hn).1, fun n hn m hm => (g n hn).2.1 m hm, fun n hn => (g n hn).2.2.1, fun n hn => (g n hn).2.2.2.1, fun n hn => He.eqO_ok (g n hn).2.2.2.2.1, fun n hn => He.eqO_ok (g n hn).2.2.2.2.2⟩
/-- isinstance(e, c) of the caught exception at slot i -/
def dIsX (a : Addr) (d : Option Addr) (i : Nat) (b : Bool) : DE := fun ρ o => match ρ[i]? with
  | some (.d (.exn a' d' x)) => if a' = a ∧ d' = d then .ok (.bl b) o else .bad
  | _ => .bad
/-- e.f of the caught exception at slot i -/
def xfD : Str → Xf → Option D := fun f x => match x with
  | .word w => if f = "word" then some (.str w) else none
  | .place p => if f = "place" then some (.int p) else none
  | .no => none
def dXf (a : Addr) (d : Option Addr) (i : Nat) (f : Str) : DE := fun ρ o => match ρ[i]? with
  | some (.d (.exn a' d' x)) => if a' = a ∧ d' = d then .of o (xfD f x) else .bad
  | _ => .bad
section
variable {X : Cx} {C : Addr} {E : XK} {a D : Addr} {d : Option Addr} {oe : Obj} {pn : List (Addr × Obj)} {i : Nat} {n : Str} {p p1 p2 pos : Pos}
theorem exn_of {K : PySem.W.Frag} {F H : Hp} {B : List Addr} {σ : L2.St} {ρ : Rho} (nn : EnvOk K F B H σ ρ) {a' : Addr} {d' : Option Addr} {x : Xf} (h : ρ[i]? = some (.d (.exn a' d' x))) : σ[i]? = some (some (.ref a')) ∧ XfAt F d' x := by
  obtain ⟨v, h1, h2⟩ := nn.dat i _ h
  cases h2 with
  | exn q => exact ⟨h1, q⟩
theorem eIsX {c : Str} {cv : Value} {v : V} {b : Bool} (T : ExcC X.K D) (z : Zc (.ref D) d oe) (fl : ∃ vs, oe.data = .fields vs) (hm : X.mg "isinstance" = none) (pc : PE (X.suite a ((a, oe) :: pn)) (.Name c p2) (tC v)) (same : ∀ u, RelV v u → u = cv) (kit : PySem.W.kitOne X.K (.ref D) cv = some b)
    (hN : X.N[i]? = some n) (hv : Vis X.env.scope n) (hd : (n == ("__debug__" : Str)) = false) (hcd : (n == ("__classdict__" : Str)) = false) (hg : Gl (X.suite a ((a, oe) :: pn)) "isinstance")
    (na : starEach [.Name n p1, .Name c p2] X.env = (false, eval (.Name n p1) X.env) :: starEach [.Name c p2] X.env := by rfl) (nb : starEach [.Name c p2] X.env = (false, eval (.Name c p2) X.env) :: starEach [] X.env := by rfl) (npl : (backTo pos (starEach [.Name c p2] X.env)).any (·.1) = false := by rfl) :
    EX (X.suite a ((a, oe) :: pn)) C E (.Call (.Name "isinstance" p) [.Name n p1, .Name c p2] [] pos) (dIsX a d i b) := by
  refine PE.imp (pe_callB (call_isX T z fl) hg hm boot_isinstance (pa_cons (pe_var (X := X.suite a ((a, oe) :: pn)) (pos := p1) (i := i) hN hv hd hcd) (pa_cons pc pa_nil nb) na) (by decide) (by decide) na npl) ?_
  rintro σ H Q ⟨F, B, ρ, o, e, s, nn, c⟩
  unfold dIsX at c
  cases q : ρ[i]? with
  | none => rw [q] at c; exact c.elim
  | some ev =>
    rw [q] at c
    match ev, q, c with
    | .d (.exn a' d' x), q, c =>
      by_cases h : a' = a ∧ d' = d
      · obtain ⟨rfl, rfl⟩ := h
        simp only [and_self, if_true] at c
        obtain ⟨h1, h2⟩ := exn_of nn q
        refine ⟨_, h1, _, _, b, rfl, same, kit, fun dd hdd => ?_, c F H B _ (Step.refl e) s (.bl b)⟩
        subst hdd
        cases x with
        | no => exact h2.elim
        | word w => exact ⟨_, e _ _ h2⟩
        | place p => exact ⟨_, e _ _ h2⟩
      · simp only [h, if_false] at c; exact c.elim
theorem eXf {f : Str} (T : XfC X.K D) (hno : PySem.W.findIn X.K (.ref D) f = some none) (z : Zc (.ref D) d oe) (fl : ∃ vs, oe.data = .fields vs) (hN : X.N[i]? = some n) (hv : Vis X.env.scope n) (hd : (n == ("__debug__" : Str)) = false) (hcd : (n == ("__classdict__" : Str)) = false)
    (hb : attributeBase (.Name n p1) f X.env (eval (.Name n p1) X.env) = eval (.Name n p1) X.env := by rfl) : EX (X.suite a ((a, oe) :: pn)) C E (.Attribute (.Name n p1) f pos) (dXf a d i f) := by
  refine PE.imp (pe_xf T hno z fl (pe_var (X := X.suite a ((a, oe) :: pn)) (pos := p1) (i := i) hN hv hd hcd) hb) ?_
  rintro σ H Q ⟨F, B, ρ, o, e, s, nn, c⟩
  unfold dXf at c
  cases q : ρ[i]? with
  | none => rw [q] at c; exact c.elim
  | some ev =>
    rw [q] at c
    match ev, q, c with
    | .d (.exn a' d' x), q, c =>
      by_cases h : a' = a ∧ d' = d
      · obtain ⟨rfl, rfl⟩ := h
        simp only [and_self, if_true] at c
        obtain ⟨h1, h2⟩ := exn_of nn q
        cases x with
        | no => exact c.elim
        | word w =>
          by_cases hf : f = "word"
          · subst hf
            have c2 : Con X.K C (Is X.K) E F H B Q (.ok (.str w) o) := c
            clear c
            cases d' with
            | none => exact h2.elim
            | some dd => exact ⟨_, h1, rfl, rfl, dd, _, _, rfl, e _ _ h2, by rfl, c2 F H B _ (Step.refl e) s (.str w)⟩
          · have e2 : xfD f (.word w) = none := if_neg hf
            rw [e2] at c
            exact c.elim
        | place w =>
          by_cases hf : f = "place"
          · subst hf
            have c2 : Con X.K C (Is X.K) E F H B Q (.ok (.int w) o) := c
            clear c
            cases d' with
            | none => exact h2.elim
            | some dd => exact ⟨_, h1, rfl, rfl, dd, _, _, rfl, e _ _ h2, by rfl, c2 F H B _ (Step.refl e) s (.int w)⟩
          · have e2 : xfD f (.place w) = none := if_neg hf
            rw [e2] at c
            exact c.elim
      · simp only [h, if_false] at c; exact c.elim
end
end KR
set_option Elab.async false
set_option linter.all false
set_option maxRecDepth 100000
set_option maxHeartbeats 4000000
namespace KR
open PySem PySem.Spec PyProof.Rows L2 LamX
/-! ### what a call does, or the word of what it raises -/
def toldD : Xc → D
  | .badBook => .tup [.str "book"] | .badKey w => .tup [.str "key", .str w] | .noOne => .tup [.str "one"] | .badPlace => .tup [.str "place"] | .badTimes p => .tup [.str "times", .int p] | .noMoment => .tup [.str "moment"]
/-- x: the def whose table of code lies behind the handle 0 -/
def dTold (x : Str) (f : KR.DE) : KR.DE := fun (ρ : Rho) (o : Om) => match (o[0]? : Option MO) with
  | some (MO.tb y) => if y = x then (match f ρ o with
    | .ok v o1 => .ok v o1
    | .exc c o1 => .ok (toldD c) o1
    | .bad => .bad) else .bad
  | _ => .bad
/-- what is wished of an exception: that its word may be told -/
def ToldX (K : PySem.W.Frag) (C : Addr) (Q : VK) : XK := fun cls d H => ∃ xc F B o, Sub F H ∧ Store K C F B H o ∧ XAt K F xc cls d ∧ Con K C (Is K) C8.E0 F H B Q (.ok (toldD xc) o)
section
variable {K : PySem.W.Frag} {C : Addr} {F F1 H H1 : Hp} {B : List Addr} {o : Om}
theorem At.move (ff : Sub F F1) {a : Addr} (hF : F a = none → F1 a = none) (hH : H1 a = H a) : ∀ {mo : MO}, At K C F B H a mo → At K C F1 B H1 a mo
  | .ml xs, ⟨h1, vs, h2, h3⟩ => ⟨hF h1, vs, hH.trans h2, h3.mono ff fun _ _ h => h⟩
  | .ins fs, ⟨h1, dx, fvs, h2, h3, h4⟩ => ⟨hF h1, dx, fvs, hH.trans h2, h3, h4.mono ff fun _ _ h => h⟩
  | .gone, _ => trivial
  | .dt x, ⟨h1, h2⟩ => ⟨hF h1, hH.trans h2⟩
  | .dn x, ⟨h1, h2⟩ => ⟨hF h1, hH.trans h2⟩
  | .tb x, ⟨h1, h2, ps, h3, h4, h5⟩ => ⟨hF h1, h2, ps, hH.trans h3, h4, fun p cv q => by
      obtain ⟨c, e1, e2⟩ := h5 p cv q
      exact ⟨c, e1, ff _ _ e2⟩⟩
/-- a lambda was made: what is known, the step, the store -/
theorem coded {x : Str} {c' : Addr} {ps : Array Value} {pos : Pos} (e : Sub F H) (s : Store K C F B H o) (h0 : o[0]? = some (.tb x)) (hP : H (tbAt K x) = some (.tbl ps)) (cd : Coded H H1 (tbAt K x) (tbQ x) ps pos c') (tri : TriplesOk ps.toList)
    (known : ∀ (p : Pos) (cv : Value), codeAmong p ps.toList = some cv → ∃ c, cv = .ref c ∧ F c = some (CodeO c (tbQ x))) : ∃ F1, Step F H B F1 H1 B ∧ Store K C F1 B H1 o := by
  rcases cd with rfl | ⟨hn, hne, rfl⟩
  · exact ⟨F, Step.refl e, s⟩
  · obtain ⟨P, hB⟩ : ∃ P, B[0]? = some P := by
      have l : 0 < B.length := by rw [s.len]; exact (List.getElem?_eq_some_iff.mp h0).1
      exact ⟨B[0], List.getElem?_eq_getElem l⟩
    obtain ⟨hFP, eP, _⟩ := s.at_ 0 P _ hB h0
    subst eP
    have fn : F c' = none := sub_none e hn
    have inB : tbAt K x ∈ B := List.mem_of_getElem? hB
    have ff : Sub F (upd F c' (CodeO c' (tbQ x))) := sub_upd fn
    have at1 : ∀ a, a ≠ c' → a ≠ tbAt K x → upd (upd H (tbAt K x) (.tbl (ps ++ #[rawInt pos.line, rawInt pos.col, .ref c']))) c' (CodeO c' (tbQ x)) a = H a := fun a h1 h2 => by rw [upd_ne h1, upd_ne h2]
    have atP : upd (upd H (tbAt K x) (.tbl (ps ++ #[rawInt pos.line, rawInt pos.col, .ref c']))) c' (CodeO c' (tbQ x)) (tbAt K x) = some (.tbl (ps ++ #[rawInt pos.line, rawInt pos.col, .ref c'])) := by rw [upd_ne (Ne.symm hne), upd_same]
    refine ⟨upd F c' (CodeO c' (tbQ x)), ⟨ff, fun a u q => ?_, ⟨[], by simp⟩, fun a u q n => ?_, fun a q => ?_, fun a q n => ?_, fun a q => .inl q⟩, ⟨s.len, s.nd, fun a ha => ?_, fun n a mo h1 h2 => ?_⟩⟩
    · by_cases h : a = c'
      · subst h; rw [upd_same] at q ⊢; exact q
      · rw [upd_ne h] at q
        rw [at1 a h (fun z => by rw [z, hFP] at q; cases q)]
        exact e a u q
    · rw [at1 a (fun z => by rw [z, hn] at q; cases q) (fun z => n (z ▸ inB))]; exact q
    · by_cases h : a = c'
      · rw [h]; exact hn
      · by_cases h2 : a = tbAt K x
        · rw [h2, atP] at q; cases q
        · rw [at1 a h h2] at q; exact q
    · by_cases h : a = c'
      · rw [h]; exact .inl hn
      · rw [upd_ne h] at n; exact (n q).elim
    · have := s.there a ha
      by_cases h2 : a = tbAt K x
      · rw [h2, atP]; exact fun z => nomatch z
      · rw [at1 a (fun z => this (by rw [z]; exact hn)) h2]; exact this
    · have z := s.at_ n a mo h1 h2
      by_cases h : a = tbAt K x
      · subst h
        have n0 : n = 0 := nodup_at s.nd h1 hB
        subst n0
        rw [h0] at h2
        cases h2
        have hl : (ps ++ #[rawInt pos.line, rawInt pos.col, .ref c']).toList = ps.toList ++ [rawInt pos.line, rawInt pos.col, .ref c'] := by simp
        refine ⟨by rw [upd_ne (Ne.symm hne)]; exact hFP, rfl, _, atP, by rw [hl]; exact PySem.TriplesOk_snoc _ _ _ _ tri, fun p cv q => ?_⟩
        rw [hl] at q
        rcases among_app _ tri q with q | q
        · obtain ⟨c, e1, e2⟩ := known p cv q
          exact ⟨c, e1, ff _ _ e2⟩
        · exact ⟨c', q, upd_same⟩
      · have ht := s.there a (List.mem_of_getElem? h1)
        have hc : a ≠ c' := fun z => ht (by rw [z]; exact hn)
        exact z.move ff (fun q => by rw [upd_ne hc]; exact q) (at1 a hc h)
end
end KR
set_option Elab.async false
set_option linter.all false
set_option maxRecDepth 100000
set_option maxHeartbeats 4000000
namespace KR
open PySem PySem.Spec PyProof.Rows L2 LamX
/-! ### a def that tells what its argument does -/
abbrev toldCx (P : Program) (w : World) (K : PySem.W.Frag) (mg : Str → Option Value) (base : Heap) (Ng : List Str) (x : Str) (sg : Scope) (g : Addr) (cdv : Value) (A : Around) (outer : List Env) (s : Shared) (H : Hp) : Cx := cxOf C8.CX0 P w K mg base Ng x sg g cdv A outer s H C8.E0
def Gives (P : Program) (w : World) (K : PySem.W.Frag) (mg : Str → Option Value) (base : Heap) (C : Addr) (k : Nat) (x a : Str) (Ng : List Str) (sg : Scope) (g : Addr) (cdv : Value) (bg : List Stmt) : Prop :=
  ∀ (A : Around) (outer : List Env) (s : Shared) (H : Hp) (f c' : Addr) (q : Str) (Q : VK) (tl : XK → Hp → VK → Prop), Room k (A.deeper (envOfC x sg s.heap.objs.size g cdv)) →
    (∀ (W : WX) (pn : List (Addr × Obj)) (xe : Value → Shared → Prop) (E : XK) (p1 p2 : Pos), Takes ((toldCx P w K mg base Ng x sg g cdv A outer s H).tr pn xe) W → (∀ cls d σ' H', E cls d H' → W cls d σ' H') →
      PE ((toldCx P w K mg base Ng x sg g cdv A outer s H).tr pn xe) (.Call (.Name a p1) [] [] p2) (fun σZ HZ Q => σZ[0]? = some (some (.ref f)) ∧ HZ c' = some (CodeO c' q) ∧ tl E HZ Q)) →
    H c' = some (CodeO c' q) → tl (ToldX K C Q) H Q → ∃ t, PSs (toldCx P w K mg base Ng x sg g cdv A outer s H) bg t ∧ t { nx := fun _ H' => Q .non H', rt := Q } (L2.start Ng [.ref f]) H
structure TOLD (P : Program) (w : World) (K : PySem.W.Frag) (mg : Str → Option Value) (base : Heap) (C : Addr) (k : Nat) (x : Str) : Prop where
  ex : ∃ (g : Addr) (a : Str) (pg : Arguments) (bg : List Stmt) (sg : Scope) (dV kV doc pm cdv ct oc : Value) (an od : Option Addr) (osl : Array (Option Value)) (Ng : List Str), mg x = some (.ref g) ∧ PySem.W.keepIn K (.ref g) = true ∧
    K.lookup g = some ⟨oc, od, .func (PySem.W.fnOf x x pg bg sg dV kV doc pm an cdv ct), osl⟩ ∧ PySem.W.codeIn K cdv x = true ∧ Binds K (PySem.W.fnOf x x pg bg sg dV kV doc pm an cdv ct) [a] [] ∧ FnScope Ng [a] sg ∧ Ng[0]? = some a ∧ Vis sg a ∧
    (a == ("__debug__" : Str)) = false ∧ (a == ("__classdict__" : Str)) = false ∧ Gives P w K mg base C k x a Ng sg g cdv bg
section
variable {X : Cx} {C : Addr} {E : XK} {k : Nat} {x xt : Str} {params : Arguments} {body : Expr} {scope : Scope} {p lpos pos : Pos} {fb : KR.DE}
/-- the call, the lambda made in any way that `mk` shows -/
theorem eTold {Bd : Hp → Shared → Value → Prop} (TD : TOLD X.prog X.w X.K X.mg X.base C (k + 1) xt) (q : lamQ X = tbQ x) (code : X.env.code = .ref (He.cT X.K (x, none)).1) (TB : TabB X.base X.mg (He.cT X.K (x, none)).1 (tbAt X.K x)) (hr : Room (k + 2) X.A) (L : LamU X.env.scope scope X.N)
    (mk : ∀ (pins : List (Addr × Obj)) (s : Shared) (σ : L2.St) (H : Hp) (Q E' : Value → Shared → Prop), Inv X pins σ H s → (∀ (s1 : Shared) (dV : Value), Inv X pins σ H s1 → Bd H s1 dV → wpAny (model X.prog X.w) X.A (makeTail "<lambda>" (lamQ X) params (.expr body) scope X.env dV .none none lpos lpos.line) Q E' s1) →
      wpAny (model X.prog X.w) X.A (eval (.Lambda params body scope lpos) X.env) Q E' s)
    (bd : ∀ (pins : List (Addr × Obj)) (σ : L2.St) (H : Hp) (s1 : Shared) (dV doc pm ctv : Value) (c' : Addr), Inv X pins σ H s1 → Bd H s1 dV → ∃ bs : List (Str × Value), (∀ y ∈ bs, scope.names.lookup y.1 = some .local) ∧ ∀ s2 : Shared, (∀ b o, H b = none → b ∉ frs X.stack → s1.heap.get? b = some o → s2.heap.get? b = some o) →
      BindsTo s2 (PySem.W.kdv_fn "<lambda>" (lamQ X) params (.expr body) scope (lamClo X scope) dV doc pm (.ref c') ctv) ⟨[], []⟩ bs)
    (does : ∀ (A : Around) (outer : List Env) (s : Shared) (H : Hp) (E : XK) (f c' : Addr), Room k (A.deeper (lamEnv X scope s.heap.objs.size f c')) → EX (lamCx X A outer s H E scope f c') C E body fb)
    (hg : Gl X xt) (hdb : (xt == ("__debug__" : Str)) = false) : EX X C E (.Call (.Name xt p) [.Lambda params body scope lpos] [] pos) (dTold x fb) := by
  obtain ⟨g, a, pg, bg, sg, dV0, kV, doc0, pm0, cdv, ct, oc, an, od, osl, Ng, hm, hk, lk, hcg, hb, Sg, hNg, hva, hd, hcd, give⟩ := TD.ex
  constructor
  rintro pins s σ H Q I ⟨F, B, ρ, o, e, st, nn, c⟩
  unfold dTold at c
  cases h0 : (o[0]? : Option MO) with
  | none => rw [h0] at c; exact c.elim
  | some mo =>
    rw [h0] at c
    match mo, h0, c with
    | .tb y, h0, c =>
      by_cases hy : y = x
      · subst hy
        simp only [if_true] at c
        have l0 : 0 < B.length := by rw [st.len]; exact (List.getElem?_eq_some_iff.mp h0).1
        obtain ⟨hFP, eP, ps, hP, tri, known⟩ := st.at_ 0 _ _ (List.getElem?_eq_getElem l0) h0
        rw [eP] at hP
        refine wpAny_Call_Name_kw (ld_glob I hg hm ?_ hdb)
        refine PySem.W.callWith_K (h₀ := X.base) I.ok.mod.kin hk ?_ (by rfl) (by rfl)
        show wpAny _ _ (spliced ((false, eval (.Lambda params body scope lpos) X.env) :: backTo pos (starEach [] X.env))) _ _ s
        refine Calls.spliced_cons (mk pins s σ H _ _ I fun s1 dV I1 hBd => made I1 TB code hP tri (fun p cv h => by
          obtain ⟨c1, e1, e2⟩ := known p cv h
          rw [q]
          exact ⟨c1, e1, e _ _ e2⟩) (L.cells I.ok) ?_)
        rintro f c' doc pm ctv H1 s2 I2 keep obj big untold told cd un1
        refine Calls.spliced_nil ⟨I2.kIn, ?_⟩
        rw [q] at cd told
        obtain ⟨F1, stp, st1⟩ := coded e st h0 hP cd tri known
        have nofr : f ∉ frs X.stack := fun z => by
          rcases List.mem_cons.mp (I1.stkSub _ z) with z | z
          · have := I1.lt
            rw [← z] at this
            exact Nat.lt_irrefl _ (Nat.lt_of_lt_of_le this big)
          · exact I1.nofs big z
        have rc : codeAny (model X.prog X.w) X.A (.call (.ref g) ⟨[.ref f], []⟩) (CR C8.CX0 X.stack X.prog X.w H1 s2 Q C8.E0) s2 := by
          refine run_ofS (N := Ng) (ps := [a]) (us := [.ref f]) (vs := [.ref f]) lk hcg Sg hr I2.env0 (hb s2 [.ref f] I2.kIn rfl) (.cons rfl .nil) rfl fun hr' => ?_
          refine give X.A X.stack s2 H1 f c' (tbQ y) Q (fun E H' Q' => tE X.K C E fb σ H' Q') hr' (fun W pn xe E2 p1 p2 tk hW => ?_) told ⟨F1, B, ρ, o, stp.fh, st1, nn.step stp, ?_⟩
          · rw [← q]
            obtain ⟨bs, bsl, hbs⟩ := bd pins σ H s1 dV doc pm ctv c' I1 hBd
            exact lam_act I2 L obj untold nofr bsl (fun s3 k3 => hbs s3 fun b o n fr ob => by
              have np : b ≠ tbAt X.K y := fun z => by rw [z, hP] at n; cases n
              exact k3 b o (keep b o np ob) (un1 b o np ob n) fr) tk hW hr' (fun A outer s H hr2 => does A outer s H E2 f c' hr2) hNg hva hd hcd
          · cases hf : fb ρ o with
            | ok v o1 => rw [hf] at c; exact Con.step c stp
            | bad => rw [hf] at c; exact c.elim
            | exc xc o1 =>
              rw [hf] at c
              exact fun F2 H2 B2 cls d st2 s2 xa => ⟨xc, F2, B2, o1, st2.fh, s2, xa, fun F3 H3 B3 v st3 s3 i3 => c F3 H3 B3 v ((stp.trans st2).trans st3) s3 i3⟩
        refine wpAny_call (codeAny_mono rc fun r s3 hq => ?_)
        match r, hq with
        | .ok (.ret u), hq => exact I2.after hq
      · simp only [hy, if_false] at c; exact c.elim
/-- told(lambda: ..) -/
theorem eTold0 (TD : TOLD X.prog X.w X.K X.mg X.base C (k + 1) xt) (q : lamQ X = tbQ x) (code : X.env.code = .ref (He.cT X.K (x, none)).1) (TB : TabB X.base X.mg (He.cT X.K (x, none)).1 (tbAt X.K x)) (hr : Room (k + 2) X.A) (L : LamU X.env.scope scope X.N) (bare : defaultsOf params X.env = ([], []))
    (bind : ∀ (q : Str) (cl : List (Str × Addr)) (doc pm cv ctv : Value), bindArgs (PySem.W.kdv_fn "<lambda>" q params (.expr body) scope cl .none doc pm cv ctv) ⟨[], []⟩ = pure [])
    (does : ∀ (A : Around) (outer : List Env) (s : Shared) (H : Hp) (E : XK) (f c' : Addr), Room k (A.deeper (lamEnv X scope s.heap.objs.size f c')) → EX (lamCx X A outer s H E scope f c') C E body fb)
    (hg : Gl X xt := by rfl) (hdb : (xt == ("__debug__" : Str)) = false := by decide) : EX X C E (.Call (.Name xt p) [.Lambda params body scope lpos] [] pos) (dTold x fb) :=
  eTold (Bd := fun _ _ dV => dV = .none) TD q code TB hr L (fun pins s σ H Q E' I h => lam_plain bare (h s .none I rfl))
    (fun pins σ H s1 dV doc pm ctv c' I e => ⟨[], fun y hy => (by cases hy), fun s2 _ => by subst e; exact BindsTo.of_eq (bind _ _ _ _ _ _)⟩) does hg hdb
/-- told(lambda a=i: ..), a not read -/
theorem eTold1 {ar : Str} {i : Int} {j : Nat} {ip : Pos} (TD : TOLD X.prog X.w X.K X.mg X.base C (k + 1) xt) (q : lamQ X = tbQ x) (code : X.env.code = .ref (He.cT X.K (x, none)).1) (TB : TabB X.base X.mg (He.cT X.K (x, none)).1 (tbAt X.K x)) (hr : Room (k + 2) X.A) (L : LamU X.env.scope scope X.N)
    (one : params.defaults = [.Constant (.int i) j ip]) (nokw : params.kw_defaults = []) (loc : scope.names.lookup ar = some .local)
    (bind : ∀ (q : Str) (cl : List (Str × Addr)) (T : Addr) (doc pm cv ctv u : Value), ∃ kk : Option (Array Value) → Sem (List (Str × Value)), bindArgs (PySem.W.kdv_fn "<lambda>" q params (.expr body) scope cl (.ref T) doc pm cv ctv) ⟨[], []⟩ = seqItems? (.ref T) >>= kk ∧ kk (some #[u]) = pure [(ar, u)])
    (does : ∀ (A : Around) (outer : List Env) (s : Shared) (H : Hp) (E : XK) (f c' : Addr), Room k (A.deeper (lamEnv X scope s.heap.objs.size f c')) → EX (lamCx X A outer s H E scope f c') C E body fb)
    (hg : Gl X xt := by rfl) (hdb : (xt == ("__debug__" : Str)) = false := by decide) : EX X C E (.Call (.Name xt p) [.Lambda params body scope lpos] [] pos) (dTold x fb) := by
  refine eTold (Bd := fun H s1 dV => ∃ (T : Addr) (u : Value), dV = .ref T ∧ s1.heap.get? T = some (PySem.W.kdv_tup [u]) ∧ H T = none ∧ T ∉ frs X.stack) TD q code TB hr L ?_ ?_ does hg hdb
  · intro pins s σ H Q E' I h
    refine lam_one (pins := pins) (σ := σ) (H := H) one nokw (fun {Q'} kk => ?_) fun u s1 I1 => ?_
    · exact wpAny_Constant_int (kk _ _ (I.tok _))
    · have kp : ∀ b o, s1.heap.get? b = some o → (s1.heap.push (PySem.W.kdv_tup [u])).get? b = some o := fun b o e => Heap.get?_push_of_some _ e
      refine h _ _ (I1.kept (t' := s1.toks) kp) ⟨s1.heap.objs.size, u, rfl, Heap.get?_push_size _ rfl, I1.hok.fresh (Nat.le_refl _), fun z => ?_⟩
      rcases List.mem_cons.mp (I1.stkSub _ z) with z | z
      · have := I1.lt
        rw [← z] at this
        exact Nat.lt_irrefl _ this
      · exact I1.nofs (Nat.le_refl _) z
  · rintro pins σ H s1 dV doc pm ctv c' I ⟨T, u, rfl, hT, hn, hf⟩
    obtain ⟨kk, h1, h2⟩ := bind (lamQ X) (lamClo X scope) T doc pm (.ref c') ctv u
    refine ⟨[(ar, u)], fun y hy => ?_, fun s2 k2 => BindsTo.of_defaults rfl (k2 T _ hn hf hT) rfl h1 h2⟩
    rw [List.mem_singleton] at hy
    subst hy
    exact loc
end
end KR
set_option Elab.async false
set_option linter.all false
set_option maxRecDepth 100000
set_option maxHeartbeats 4000000
namespace KR
open PySem PySem.Spec PyProof.Rows L2 LamX
/-! ### the def itself: try: return a() / except KeyrollError as e: .. -/
section
variable {P : Program} {w : World} {K : PySem.W.Frag} {mg : Str → Option Value} {base : Heap} {C : Addr} {k : Nat} {x a e : Str} {Ng : List Str} {sg : Scope} {g : Addr} {cdv : Value} {i : Nat} {b0 : Stmt} {suite : List Stmt} {p1 p2 p3 p4 p5 p6 : Pos}
theorem exn_env {F H : Hp} {B : List Addr} {σ : L2.St} {n : Nat} {a' : Addr} {d : Option Addr} {xf : Xf} (hl : σ.length = n) (hi : σ[i]? = some (some (.ref a'))) (h : XfAt F d xf) : EnvOk K F B H σ ((List.replicate n EV.no).set i (.d (.exn a' d xf))) ∧ ∀ z, ¬ OwnOf σ ((List.replicate n EV.no).set i (.d (.exn a' d xf))) z := by
  have only : ∀ (j : Nat) (ev : EV), ((List.replicate n EV.no).set i (.d (.exn a' d xf)))[j]? = some ev → ev = .no ∨ (j = i ∧ ev = .d (.exn a' d xf)) := fun j ev q => by
    by_cases z : i = j
    · subst z
      rw [List.getElem?_set] at q
      simp only [if_true] at q
      split at q
      · cases q; exact .inr ⟨rfl, rfl⟩
      · cases q
    · rw [List.getElem?_set_ne z] at q
      exact .inl (List.mem_replicate.mp (List.mem_of_getElem? q)).2
  refine ⟨⟨by simp [hl], fun j y q => ?_, fun j ys q => ?_, fun j j' ys zs b q => ?_⟩, fun b ⟨j, ys, q, _⟩ => ?_⟩
  · rcases only j _ q with z | ⟨rfl, z⟩
    · cases z
    · cases z; exact ⟨_, hi, .exn h⟩
  · rcases only j _ q with z | ⟨_, z⟩ <;> cases z
  · rcases only j _ q with z | ⟨_, z⟩ <;> cases z
  · rcases only j _ q with z | ⟨_, z⟩ <;> cases z
theorem gives_of (nd : Ng.Nodup) (hi : Ng[i]? = some e) (hln : sg.names.lookup e = some .local) (hk : mg "KeyrollError" = some (.ref (He.ga K "KeyrollError"))) (hgk : sg.names.lookup ("KeyrollError" : Str) = some .globalImplicit) (xs : Exs K) (h0 : ∀ f : Addr, (L2.start Ng [V.ref f])[0]? = some (some (V.ref f)))
    (hand : ∀ (A : Around) (outer : List Env) (s : Shared) (H : Hp) (xc : Xc) (a' : Addr) (oe : Obj) (d : Option Addr) (pn : List (Addr × Obj)), Room k (A.deeper (envOfC x sg s.heap.objs.size g cdv)) → Zc (.ref (He.ga K xc.nm)) d oe → (∃ vs, oe.data = .fields vs) →
      ∃ den : DS, ESs ((toldCx P w K mg base Ng x sg g cdv A outer s H).suite a' ((a', oe) :: pn)) C C8.E0 (b0 :: suite) den ∧ ∀ o, den ((List.replicate Ng.length EV.no).set i (.d (.exn a' d xc.xf))) o = .rt (toldD xc) o) :
    Gives P w K mg base C k x a Ng sg g cdv [.Try [.Return (some (.Call (.Name a p1) [] [] p2)) p3] [.ExceptHandler (some (.Name "KeyrollError" p4)) (some e) (b0 :: suite) p5] [] [] p6] := by
  intro A outer s H f c' q Q tl room act told tlh
  refine ⟨_, pss_one (ps_try_as (X := toldCx P w K mg base Ng x sg g cdv A outer s H) (i := i) (c := .ref (He.ga K "KeyrollError"))
    (tb := fun W D σ H => ∃ Ech : XK, (∀ cls d σ' H', Ech cls d H' → W cls d σ' H') ∧ σ[0]? = some (some (.ref f)) ∧ H c' = some (CodeO c' q) ∧ tl Ech H D.rt)
    (ts := fun a' cls d D σ H => ∃ xc F B o, Sub F H ∧ Store K C F B H o ∧ XAt K F xc cls d ∧ (∃ σ' : L2.St, σ = σ'.set i (some (.ref a'))) ∧ Con K C (Is K) C8.E0 F H B D.rt (.ok (toldD xc) o))
    rfl rfl nd hi hln ⟨hgk, by decide, .inl hk⟩ LamX.takes0 (fun W pn xe tk _ => ?_) fun a' oe cls d pn hz fl => ?_), ?_⟩
  · refine ⟨fun pins s1 σ1 H1 D I h => ?_⟩
    obtain ⟨Ech, hW, g1, g2, g3⟩ := h
    exact (pss_one (ps_ret (pos := p3) (act W pn xe Ech p1 p2 tk hW))).run pins s1 σ1 H1 D I ⟨g1, g2, g3⟩
  · refine ⟨fun pins s1 σ1 H1 D I h => ?_⟩
    obtain ⟨xc, F, B, o, e1, st, ⟨hcls, hxf⟩, ⟨σ', hσ⟩, con⟩ := h
    subst hcls
    obtain ⟨den, hden, heq⟩ := hand A outer s H xc a' oe d pn room hz fl
    have hl : σ1.length = Ng.length := I.len
    have il : i < σ1.length := by rw [hl]; exact (List.getElem?_eq_some_iff.mp hi).1
    have hat : σ1[i]? = some (some (.ref a')) := by
      rw [hσ] at il ⊢
      rw [List.length_set] at il
      exact List.getElem?_set_self il
    obtain ⟨en, no⟩ := exn_env (K := K) (B := B) (H := H1) hl hat hxf
    refine hden.run pins s1 σ1 H1 D I ⟨F, B, _, o, e1, st, en, ?_⟩
    rw [heq]
    refine fun F2 H2 B2 v st2 s2 i2 => con F2 H2 B2 v ⟨st2.ff, st2.fh, st2.bb, fun a o h n => st2.kp a o h n (no a), st2.th, fun a h n => ?_, fun a h => ?_⟩ s2 i2
    · rcases st2.nw a h n with z | z | z
      · exact .inl z
      · exact .inr z
      · exact (no a z).elim
    · rcases st2.bn a h with z | z | z
      · exact .inl z
      · exact .inr z
      · exact (no a z).elim
  · refine ⟨ToldX K C Q, fun cls d σ' H' ⟨xc, F, B, o, e1, st, xa, con⟩ => ⟨true, ?_, fun _ a' _ => ⟨xc, F, B, o, e1, st, xa, ⟨σ', rfl⟩, con⟩, fun z => by cases z⟩, h0 f, told, tlh⟩
    rw [xa.1]
    exact xs.ke _ xc.six
end
end KR
set_option Elab.async false
set_option linter.all false
set_option maxRecDepth 100000
set_option maxHeartbeats 4000000
namespace KR
open PySem PySem.Spec PyProof.Rows L2 LamX
/-! ### xs.index(y), xs.count(y) of leaves -/
def opIdx (o : Om) (x y : D) : Option D := match lv o x with
  | some xs => if flatD y = true ∧ xs.all flatD = true then (xs.findIdx? fun z => eqF z y).map fun j => .int (j : Nat) else none
  | none => none
def opCnt (o : Om) (x y : D) : Option D := match lv o x with
  | some xs => if flatD y = true ∧ xs.all flatD = true then some (.int (xs.countP fun z => eqF z y : Nat)) else none
  | none => none
/-- a method that reads a list -/
def dRM (op : Om → D → D → Option D) (g f : DE) : DE := fun ρ o => (g ρ o).bind fun x o1 => if (lv o1 x).isSome = true then ((f ρ o1).bind fun y o2 => .of o2 (op o2 x y)) else .bad
def RmOk (K : PySem.W.Frag) (C : Addr) (r : V → List V → Hp → VK → Prop) (op : Om → D → D → Option D) : Prop := ∀ (F H : Hp) (B : List Addr) (o : Om) (v u : V) (x y z : D) (Q : VK), Sub F H → Store K C F B H o → Is K F B v x → Is K F B u y → op o x y = some z → (∀ w, Is K F B w z → Q w H) → r v [u] H Q
section
variable {X : Cx} {C : Addr} {E : XK} {g f : DE} {o0 a : Expr} {pos : Pos}
theorem eRM {id : String} {r : V → List V → Hp → VK → Prop} {op : Om → D → D → Option D} {name : Str} {apos : Pos} (mo : RmOk X.K C r op) (slot : Slot "list" name id) (hty : typeOf (.builtin id) = pure (.type "method_descriptor")) (hm : MtR X id r) (ho : EX X C E o0 g) (ha : EX X C E a f)
    (hbase : attributeBase o0 name X.env (eval o0 X.env) = eval o0 X.env := by rfl)
    (hfew : ((backTo pos (starEach [a] X.env)).all (fun x => !x.1) && (backToKw pos (keywordEach [] X.env)).all (fun x => x.1.isSome) && decide (([a] : List Expr).length + ([] : List Keyword).length + (if ([] : List Keyword).isEmpty then 0 else 1) < 30)) = true := by rfl) (hline : (apos.endLine == pos.line) = true := by rfl)
    (hs : starEach [a] X.env = (false, eval a X.env) :: starEach [] X.env := by rfl) (hpl : (backTo pos (starEach [] X.env)).any (·.1) = false := by rfl) : EX X C E (.Call (.Attribute o0 name apos) [a] [] pos) (dRM op g f) := by
  refine PE.imp (pe_bm PySem.F.plainAttrs_list slot hty hm ho (aCons ha aNil hs) hbase hfew hline hs hpl) fun σ H Q ⟨F, B, ρ, o, e, s, n, c⟩ => ⟨F, B, ρ, o, e, s, n, Con.then c fun x o1 F1 H1 B1 v st1 s1 i1 c1 => ?_⟩
  by_cases hq : (lv o1 x).isSome = true
  · rw [if_pos hq] at c1
    obtain ⟨xs0, hx⟩ := Option.isSome_iff_exists.mp hq
    obtain ⟨ad, vs0, rfl, hH0, _⟩ := i1.lv s1 st1.fh hx
    refine ⟨.inl ⟨rfl, vs0, SqL.of hH0⟩, F1, B1, ρ, o1, st1.fh, s1, n.step st1, ?_⟩
    have c2 : Con X.K C (Is X.K) E F1 H1 B1 Q ((dCons f dNil ρ o1).bind fun ds o2 => match ds with | [y] => .of o2 (op o2 x y) | _ => .bad) := by
      unfold dCons dNil
      cases q : f ρ o1 with
      | ok y o2 => rw [q] at c1; exact c1
      | exc c o2 => rw [q] at c1; exact c1
      | bad => rw [q] at c1; exact c1
    refine Con.then c2 fun ds o2 F2 H2 B2 as st2 s2 i2 c3 => ?_
    match ds, i2, c3 with
    | [y], .cons iy .nil, c3 =>
      obtain ⟨z, hz, k⟩ := con_of c3 s2
      exact mo F2 H2 B2 o2 _ _ x y z Q st2.fh s2 (st2.is i1) iy hz fun w iw => k _ _ _ (Grow.refl st2.fh) iw
    | [], _, c3 => exact c3.elim
    | _ :: _ :: _, _, c3 => exact c3.elim
  · rw [if_neg hq] at c1; exact c1.elim
theorem countP_is {K : PySem.W.Frag} {F : Hp} {B : List Addr} {u : V} {y : D} (iu : Is K F B u y) (fy : flatD y = true) : ∀ {vs : List V} {xs : List D}, IsL K F B vs xs → xs.all flatD = true → (vs.countP fun z => eqV z u) = xs.countP fun z => eqF z y
  | _, _, .nil, _ => rfl
  | _, _, .cons h1 h2, f => by
    rw [List.all_cons, Bool.and_eq_true] at f
    rw [List.countP_cons, List.countP_cons, countP_is iu fy h2 f.2, eqF_is h1 iu f.1 fy]
theorem rm_cnt : RmOk X.K C (rCntF X.K) opCnt := by
  intro F H B o v u x y z Q e s iv iu h k
  unfold opCnt at h
  cases q : lv o x with
  | none => rw [q] at h; cases h
  | some xs =>
    rw [q] at h
    simp only at h
    obtain ⟨ad, vs, rfl, hH, il⟩ := iv.lv s e q
    by_cases hf : flatD y = true ∧ xs.all flatD = true
    · rw [if_pos hf] at h
      cases h
      refine ⟨ad, vs, u, rfl, rfl, SqL.of hH, flat_is iu hf.1, flat_all il hf.2, k _ ?_⟩
      rw [countP_is iu hf.1 il hf.2]
      exact .int _
    · rw [if_neg hf] at h; cases h
theorem rm_idx : RmOk X.K C (rIndex X.K) opIdx := by
  intro F H B o v u x y z Q e s iv iu h k
  unfold opIdx at h
  cases q : lv o x with
  | none => rw [q] at h; cases h
  | some xs =>
    rw [q] at h
    simp only at h
    obtain ⟨ad, vs, rfl, hH, il⟩ := iv.lv s e q
    by_cases hf : flatD y = true ∧ xs.all flatD = true
    · rw [if_pos hf] at h
      cases q2 : xs.findIdx? (fun z => eqF z y) with
      | none => rw [q2] at h; cases h
      | some j =>
        rw [q2] at h
        cases h
        obtain ⟨hj, h1, h2⟩ := List.findIdx?_eq_some_iff_getElem.mp q2
        obtain ⟨w, e1, i1⟩ := il.get (List.getElem?_eq_getElem hj)
        have fl : ∀ (m : Nat) (d : D), xs[m]? = some d → flatD d = true := fun m d hd => List.all_eq_true.mp hf.2 d (List.mem_of_getElem? hd)
        refine ⟨ad, vs, u, j, w, rfl, rfl, SqL.of hH, flat_is iu hf.1, flat_all il hf.2, e1, ?_, fun m z' hm hz => ?_, k _ (.int _)⟩
        · rw [eqF_is i1 iu (fl _ _ (List.getElem?_eq_getElem hj)) hf.1]; exact h1
        · obtain ⟨d, e2, i2⟩ := il.get' hz
          rw [eqF_is i2 iu (fl _ _ e2) hf.1]
          have := h2 m hm
          rw [(List.getElem?_eq_some_iff.mp e2).2] at this
          simpa using this
    · rw [if_neg hf] at h; cases h
theorem eIdx {apos : Pos} (ho : EX X C E o0 g) (ha : EX X C E a f) (hbase : attributeBase o0 "index" X.env (eval o0 X.env) = eval o0 X.env := by rfl)
    (hfew : ((backTo pos (starEach [a] X.env)).all (fun x => !x.1) && (backToKw pos (keywordEach [] X.env)).all (fun x => x.1.isSome) && decide (([a] : List Expr).length + ([] : List Keyword).length + (if ([] : List Keyword).isEmpty then 0 else 1) < 30)) = true := by rfl) (hline : (apos.endLine == pos.line) = true := by rfl)
    (hs : starEach [a] X.env = (false, eval a X.env) :: starEach [] X.env := by rfl) (hpl : (backTo pos (starEach [] X.env)).any (·.1) = false := by rfl) : EX X C E (.Call (.Attribute o0 "index" apos) [a] [] pos) (dRM opIdx g f) :=
  eRM rm_idx PySem.F.slot_list_index PySem.F.type_list_index mt_index ho ha hbase hfew hline hs hpl
theorem eCnt {apos : Pos} (ho : EX X C E o0 g) (ha : EX X C E a f) (hbase : attributeBase o0 "count" X.env (eval o0 X.env) = eval o0 X.env := by rfl)
    (hfew : ((backTo pos (starEach [a] X.env)).all (fun x => !x.1) && (backToKw pos (keywordEach [] X.env)).all (fun x => x.1.isSome) && decide (([a] : List Expr).length + ([] : List Keyword).length + (if ([] : List Keyword).isEmpty then 0 else 1) < 30)) = true := by rfl) (hline : (apos.endLine == pos.line) = true := by rfl)
    (hs : starEach [a] X.env = (false, eval a X.env) :: starEach [] X.env := by rfl) (hpl : (backTo pos (starEach [] X.env)).any (·.1) = false := by rfl) : EX X C E (.Call (.Attribute o0 "count" apos) [a] [] pos) (dRM opCnt g f) :=
  eRM rm_cnt PySem.F.slot_list_count PySem.F.type_list_count mt_countF ho ha hbase hfew hline hs hpl
end
end KR
set_option Elab.async false
set_option linter.all false
set_option maxRecDepth 100000
set_option maxHeartbeats 4000000
namespace KR
open PySem PySem.Spec PyProof.Rows L2 LamX
/-! ### raise C(x), C's own __init__ keeping x in a field -/
def oexB (K : PySem.W.Frag) (C : Addr) : Bool := (match K.lookup C with
  | some ⟨.type t, _, .cls cd, sl⟩ => (match cd.mro, sl.toList with
    | .ref C' :: bm, [_, _, _, _, some (.builtin n), _] => decide (t = "type") && (decide (C' = C) && (decide (n = "ValueError.__new__") && (!cd.hasDel && (cd.hasDict && PySem.HandSPX.refsVE bm))))
    | _, _ => false)
  | _ => false) && (He.eqO (PySem.W.findIn K (.ref C) "__setattr__") (some (some (.builtin "object.__setattr__"))) && (decide (PySem.W.subIn K (.ref C) (.type "BaseException") = some true) && (decide (PySem.W.typeIn K (.ref C) = some (.type "type")) && PySem.W.keepIn K (.ref C))))
theorem oexB_ok {K : PySem.W.Frag} {C : Addr} (h : oexB K C = true) : OexC K C := by
  unfold oexB at h
  rw [Bool.and_eq_true, Bool.and_eq_true, Bool.and_eq_true, Bool.and_eq_true, decide_eq_true_eq, decide_eq_true_eq] at h
  obtain ⟨h1, h2, h3, h4, h5⟩ := h
  refine ⟨?_, He.eqO_ok h2, h3, h4, h5⟩
  split at h1
  · rename_i t dd cd sl hk
    split at h1
    · rename_i C' bm k0 k1 k2 k3 n k5 hm hs
      simp only [Bool.and_eq_true, decide_eq_true_eq, Bool.not_eq_true'] at h1
      obtain ⟨rfl, rfl, rfl, g1, g2, g3⟩ := h1
      obtain ⟨a1, a2, a3, a4, a5, a6, a7, a8, a9, a10, a11⟩ := cd
      obtain ⟨ls⟩ := sl
      simp only at hm hs g1 g2
      subst hm hs g1 g2
      exact ⟨_, _, _, _, _, _, _, _, _, _, _, _, _, _, _, hk, g3⟩
    · cases h1
  · cases h1
/-- the package's base class gives ValueError.__init__ -/
structure KeI (K : PySem.W.Frag) (D : Addr) : Prop where
  ga : PySem.W.specialIn K (.ref D) "__getattribute__" = some (some (.builtin "type.__getattribute__"))
  rd : PySem.W.readsIn K D (.type "type") = true
  fi : PySem.W.findCls K (.ref D) (.type "type") "__init__" = some (.val (.builtin "ValueError.__init__"))
def keiB (K : PySem.W.Frag) (D : Addr) : Bool := He.eqO (PySem.W.specialIn K (.ref D) "__getattribute__") (some (some (.builtin "type.__getattribute__"))) && (PySem.W.readsIn K D (.type "type") && (match PySem.W.findCls K (.ref D) (.type "type") "__init__" with
  | some (.val (.builtin n)) => decide (n = "ValueError.__init__")
  | _ => false))
theorem keiB_ok {K : PySem.W.Frag} {D : Addr} (h : keiB K D = true) : KeI K D := by
  unfold keiB at h
  rw [Bool.and_eq_true, Bool.and_eq_true] at h
  obtain ⟨h1, h2, h3⟩ := h
  refine ⟨He.eqO_ok h1, h2, ?_⟩
  split at h3
  · rename_i n q
    rw [q, of_decide_eq_true h3]
  · cases h3
section
variable {X : Cx} {e : Expr} {es : List Expr} {ta : TA} {p1 p2 pos : Pos}
theorem pe_ownInit {x : Str} {D : Addr} {pl : Sem Bool} (hg : Gl X x) (hm : X.mg x = some (.ref D)) (T0 : KeI X.K D) (ha : PA X (e :: es) ta) (hdb : (x == ("__debug__" : Str)) = false)
    (hc : eval (.Call (.Attribute (.Name x p1) "__init__" p2) (e :: es) [] pos) X.env = (do
      let ov ← eval (.Name x p1) X.env
      standAt p2.atName
      let (f, first) ← holding [ov] (getMethod ov "__init__" pl)
      callWith pos f first (backTo pos (starEach (e :: es) X.env)) (backToKw pos (keywordEach [] X.env))) := by rfl)
    (he : starEach (e :: es) X.env = (false, eval e X.env) :: starEach es X.env := by rfl) (hpl : (backTo pos (starEach es X.env)).any (·.1) = false := by rfl) : PE X (.Call (.Attribute (.Name x p1) "__init__" p2) (e :: es) [] pos) (tVeI X.K ta) := by
  constructor
  intro pins s σ H Q I h
  refine PySem.W.methodCall_KW (ld_glob I hg hm ?_ hdb) hc
  refine PySem.W.method_cls I.kIn T0.ga (PySem.W.cls_value I.kIn T0.rd T0.fi (by decide +kernel) ?_)
  refine PyProof.Rows.callWith_method1 (thn (ha.run pos pins _ σ H _ (I.tok _) h) ?_) he hpl
  rintro us s1 ⟨vs, H1, I1, r1, a, C, ws, rfl, hl, T, ea, q⟩
  cases r1 with
  | @cons _ u0 _ ur ra rr =>
    obtain rfl : u0 = Value.ref a := ra
    exact oinit_ok T I1 ea (by rw [← Paired.length rr]; exact Nat.le_trans hl (by decide)) fun s2 J => ⟨.non, H1, J, rfl, q⟩
end
/-- what such an __init__ promises -/
def spI (K : PySem.W.Frag) (C : Addr) (f : Str) : Sp := fun vs H Q _ => ∃ a y, vs = [.ref a, y] ∧ H a = some (exo a C none) ∧ ∀ d, H d = none → d ≠ a → Q .non (upd (upd H d (exd d [(f, y)])) a (exo a C (some d)))
theorem ini_ok {P : Program} {w : World} {K : PySem.W.Frag} {mg : Str → Option Value} {base : Heap} {q v f : Str} {params : Arguments} {body : List Stmt} {scope : Scope} {fI : Addr} {fd : FuncData} {C : Addr} {k : Nat} (F : FunD K "__init__" q params body scope [] [] fI fd) (S : FnScope ["self", v] ["self", v] scope) (T : OexC K C) (no : PySem.W.findIn K (.ref C) f = some none)
    (body_ : ∀ (cdv : Value) (A : Around) (outer : List Env) (s : Shared) (H : Hp) (E : XK), Room k (A.deeper (envOfC q scope s.heap.objs.size fI cdv)) → ∃ z : V → Option V, (∀ y, z y ≠ none) ∧
      PSs (cxOf (L2.CX P w) P w K mg base ["self", v] q scope fI cdv A outer s H E) body (tSeq (tDrop (tVeI K (fun σ H Q => ∃ a y u, σ[0]? = some (some a) ∧ σ[1]? = some (some y) ∧ z y = some u ∧ Q [a, u] H))) (tOst K f (tVar 0) (tVar 1)))) :
    FnOk P w K mg base (L2.CX P w) (k + 1) fI fd ["self", v] (spI K C f) := by
  refine F.ok S (fun vs H Q E ⟨a, y, h, _⟩ => by rw [h]; rfl) fun cdv A outer s H vs Q E hr h => ?_
  obtain ⟨z, hz, hb⟩ := body_ cdv A outer s H E hr
  refine ⟨_, hb, ?_⟩
  obtain ⟨a, y, rfl, ha, hq⟩ := h
  cases q2 : z y with
  | none => exact (hz y q2).elim
  | some u =>
    refine ⟨.ref a, y, u, rfl, rfl, q2, a, C, [u], rfl, by simp, T, ha, ?_⟩
    exact ⟨y, rfl, .ref a, rfl, a, C, rfl, T, no, .inl ⟨ha, fun d hd hne => hq d hd hne⟩⟩
/-! ### the raise -/
def dRaiseI (mk : D → Option Xc) (f : KR.DE) : KR.DS := fun ρ o => (dCons f dNil ρ o).bindS fun vs o1 => match vs with
  | [v] => match mk v with
    | some xc => .exc xc o1
    | none => .bad
  | _ => .bad
def mkWord : D → Option Xc
  | .str w => some (.badKey w)
  | _ => none
def mkPlace : D → Option Xc
  | .int p => some (.badTimes p)
  | _ => none
section
variable {X : Cx} {C : Addr} {E : XK} {a : Expr} {f : KR.DE} {p pc pos : Pos} {k : Nat}
theorem eRaiseI {x fl : Str} {fI : Addr} {fd : FuncData} {ps : List Str} {mk : D → Option Xc} (hc : X.calm = true) (tk : Takes X (fun cls d _ H => E cls d H)) (T : OexC X.K (He.ga X.K x)) (iC : PySem.W.findIn X.K (.ref (He.ga X.K x)) "__init__" = some (some (.ref fI))) (tI : PySem.W.typeIn X.K (.ref fI) = some (.type "function"))
    (F1 : FnOk X.prog X.w X.K X.mg X.base (L2.CX X.prog X.w) k fI fd ps (spI X.K (He.ga X.K x) fl)) (hr : Room (k + 1) X.A) (hb : Binds X.K fd ps []) (hx : Passes (L2.CX X.prog X.w) X (fun _ _ _ => False)) (hm : X.mg x = some (.ref (He.ga X.K x))) (ha : EX X C E a f)
    (hmk : ∀ v xc, mk v = some xc → xc.nm = x ∧ ∀ (F : Hp) (B : List Addr) (u : V) (d : Addr), Is X.K F B u v → XfAt (upd F d (.xd [(fl, u)])) (some d) xc.xf) (hg : Gl X x := by rfl) (hdb : (x == ("__debug__" : Str)) = false := by decide)
    (he : starEach [a] X.env = (false, eval a X.env) :: starEach [] X.env := by rfl) (hpl : (backTo pc (starEach [] X.env)).any (·.1) = false := by rfl) :
    ES X C E (.Raise (some (.Call (.Name x p) [a] [] pc)) none pos) (dRaiseI mk f) := by
  refine PS.imp (ps_raise hc tk (pmk_oex T iC tI F1 hr hb .nil hx hg hm (aCons ha aNil he) hdb he hpl)) ?_
  rintro Z σ H ⟨F, B, ρ, o, e, s, n, c⟩
  refine ⟨F, B, ρ, o, e, s, n, ConS.then c fun vs o1 F1 H1 B1 us st1 s1 i1 c1 => ?_⟩
  match vs, i1, c1 with
  | [v], .cons (v := u) iu .nil, c1 =>
    refine ⟨by simp, fun a' ha' => ⟨a', u, by simp, upd_same, fun d hd hne => ⟨rfl, d, _, upd_same, by rw [upd_ne hne, upd_same], by rw [upd_ne hne] at hd; exact hd, ?_⟩⟩⟩
    rw [upd_ne hne] at hd
    have e3 : upd (del (upd (upd (upd H1 a' (exo a' (He.ga X.K x) none)) d (exd d [(fl, u)])) a' (exo a' (He.ga X.K x) (some d))) a') d (.xd [(fl, u)]) = upd H1 d (.xd [(fl, u)]) := by
      funext b
      by_cases h1 : b = d
      · subst h1; rw [upd_same, upd_same]
      · rw [upd_ne h1, upd_ne h1]
        by_cases h2 : b = a'
        · subst h2; rw [del_same, ha']
        · rw [del_ne h2, upd_ne h2, upd_ne h1, upd_ne h2]
    rw [e3]
    simp only at c1
    cases q : mk v with
    | none => rw [q] at c1; exact c1.elim
    | some xc =>
      rw [q] at c1
      obtain ⟨h1, h2⟩ := hmk v xc q
      have g := Grow.new (o := HO.xd [(fl, u)]) st1.fh hd
      exact c1 _ _ B1 _ _ (.of (Step.of g)) (s1.grow g) ⟨by rw [h1], h2 F1 B1 u d iu⟩
  | [], _, c1 => exact c1.elim
  | _ :: _ :: _, _, c1 => exact c1.elim
theorem mk_word {K : PySem.W.Frag} (v : D) (xc : Xc) (h : mkWord v = some xc) : xc.nm = "BadKey" ∧ ∀ (F : Hp) (B : List Addr) (u : V) (d : Addr), Is K F B u v → XfAt (upd F d (.xd [("word", u)])) (some d) xc.xf := by
  cases v <;> cases h
  exact ⟨rfl, fun F B u d i => by cases i; exact upd_same⟩
theorem mk_place {K : PySem.W.Frag} (v : D) (xc : Xc) (h : mkPlace v = some xc) : xc.nm = "BadTimes" ∧ ∀ (F : Hp) (B : List Addr) (u : V) (d : Addr), Is K F B u v → XfAt (upd F d (.xd [("place", u)])) (some d) xc.xf := by
  cases v <;> cases h
  exact ⟨rfl, fun F B u d i => by cases i; exact upd_same⟩
end
end KR
set_option Elab.async false
set_option linter.all false
set_option maxRecDepth 100000
set_option maxHeartbeats 2000000
namespace KR
open PySem PySem.Spec PyProof.Rows L2
/-! sorted(set(xs)), a + b behind a handle -/
def dSSetH (f : DE) : DE := fun ρ o => (f ρ o).bind fun x o1 => match opSSet o1 x with
  | some (.lst ys) => .ok (.obj o1.length) (o1 ++ [.ml ys])
  | _ => .bad
def dAddH (f g : DE) : DE := fun ρ o => (f ρ o).bind fun x o1 => (g ρ o1).bind fun y o2 => match lv o2 x, lv o2 y with
  | some xs, some ys => if xs.length + ys.length ≤ 1000 then .ok (.obj o2.length) (o2 ++ [.ml (xs ++ ys)]) else .bad
  | _, _ => .bad
section
variable {X : Cx} {C : Addr} {E : XK} {a b : Expr} {f g : DE} {pos : Pos}
/-- a new list, put behind a handle -/
theorem behind {F H : Hp} {B : List Addr} {o : Om} {Q : VK} {vs : List L2.V} {xs : List D} {p : Addr} (s : Store X.K C F B H o) (e : Sub F H) (hp : H p = none) (il : IsL X.K F B vs xs) (c : Con X.K C (Is X.K) E F H B Q (.ok (.obj o.length) (o ++ [.ml xs]))) : Q (.ref p) (upd H p (.lst vs)) := by
  have gr := Grow.hid (o := .lst vs) e hp
  have sp : Step F H B F _ (B ++ [p]) := Step.push gr hp
  refine c F _ (B ++ [p]) _ sp (s.push gr hp (by rw [upd_same]; exact fun z => nomatch z) ⟨sub_none e hp, vs, upd_same, sp.isL il⟩) (.obj ?_)
  rw [← s.len]
  exact getlast _ _
theorem eSSetH {p p2 q pos : Pos} (hc : X.calm = true) (hm : X.mg "sorted" = none) (hm2 : X.mg "set" = none) (ha : EX X C E a g) (hg : Gl X "sorted" := by rfl) (hg2 : Gl X "set" := by rfl)
    (na : starEach [a] X.env = (false, eval a X.env) :: starEach [] X.env := by rfl) (nb : starEach [.Call (.Name "set" p2) [a] [] q] X.env = (false, eval (.Call (.Name "set" p2) [a] [] q) X.env) :: starEach [] X.env := by rfl) :
    EX X C E (.Call (.Name "sorted" p) [.Call (.Name "set" p2) [a] [] q] [] pos) (dSSetH g) :=
  PE.imp (pe_callB (cr_sortedSet hc) hg hm (by decide +kernel) (pa_cons (pe_callTy (cr_setI hc) hg2 hm2 (by decide +kernel) (pa_cons ha pa_nil na) (by decide) (by decide) na rfl) pa_nil nb) (by decide) (by decide) nb rfl) fun σ H Q ⟨F, B, ρ, o, e, s, n, c⟩ => by
    refine ⟨F, B, ρ, o, e, s, n, Con.then c fun x o1 F1 H1 B1 v st1 s1 i1 c1 => ?_⟩
    cases q1 : qv o1 x with
    | none => simp [opSSet, q1, Con] at c1
    | some ys =>
      cases q2 : allI ys with
      | none => simp [opSSet, q1, q2, Con] at c1
      | some ns =>
        by_cases hl : (dd ns).length < 64
        · simp [opSSet, q1, q2, hl] at c1
          obtain ⟨ad, vs, rfl, h1, h2⟩ := i1.qv s1 st1.fh q1
          rw [allI_is q2] at h2
          have e := h2.ints
          subst e
          refine ⟨ad, ns, rfl, h1, by omega, fun p hp => ⟨p, _, _, rfl, upd_same, hl, fun ns' p' hs hm hn hp' => ?_⟩⟩
          have g1 : Grow F1 H1 F1 (upd H1 p (SetO X.w p (fun j => decide (j ∈ ns)) (dd ns).length)) := Grow.hid st1.fh hp
          have pm : ns'.Perm (dd ns) := (List.perm_ext_iff_of_nodup (hs.imp fun h => Int.ne_of_lt h) (nodup_dd ns)).2 fun k => by rw [hm, mem_dd]; simp
          have e : ns' = srtI (dd ns) := srt_uniq (pm.trans (srtI_perm _).symm) (hs.imp fun h => Int.le_of_lt h) (srtI_srt _)
          subst e
          exact behind (s1.grow g1) g1.fh hp' (isL_ints _) (Con.step c1 (Step.of g1))
        · simp [opSSet, q1, q2, hl, Con] at c1
theorem eAddH (ha : EX X C E a f) (hb : EX X C E b g) : EX X C E (.BinOp a .Add b pos) (dAddH f g) :=
  PE.imp (pe_op op_cat ha hb) fun σ H Q ⟨F, B, ρ, o, e, s, n, c⟩ => ⟨F, B, ρ, o, e, s, n, Con.then c fun x o1 F1 H1 B1 v st1 s1 i1 c1 => ⟨F1, B1, ρ, o1, st1.fh, s1, n.step st1, Con.then c1 fun y o2 F2 H2 B2 u st2 s2 i2 c2 => by
    cases q1 : lv o2 x with
    | none => simp [q1, Con] at c2
    | some xs =>
      cases q2 : lv o2 y with
      | none => simp [q1, q2, Con] at c2
      | some ys =>
        by_cases hl : xs.length + ys.length ≤ 1000
        · simp [q1, q2, hl] at c2
          obtain ⟨l1, vs, rfl, h1, h2⟩ := (st2.is i1).lv s2 st2.fh q1
          obtain ⟨l2, us, rfl, h3, h4⟩ := i2.lv s2 st2.fh q2
          exact ⟨l1, l2, vs, us, rfl, rfl, h1, h3, sz (by rw [h2.length, h4.length]; omega), fun p hp => behind s2 st2.fh hp (h2.append h4) c2⟩
        · simp [q1, q2, hl, Con] at c2⟩⟩
end
end KR
set_option Elab.async false
set_option linter.all false
set_option maxRecDepth 100000
set_option maxHeartbeats 3000000
/-! list(zip(a, b, c)) of three lists: N, N + 1, N + 2 the lists' iterators, N + 3 the tuple of them, N + 4 the zip's own tuple, N + 5 the zip, N + 6 the list that is made -/
namespace PySem
namespace Zl
open PySem.Spec
theorem nn {p q : Nat} (h : p ≠ q) : @Ne Addr p q := h
/-- the iterators, at turn i -/
structure Its (N l1 l2 l3 : Nat) (xs ys zs : Array Value) (i : Nat) (h : Heap) : Prop where
  ti : IsTupOf3 h (N + 3) (.ref N) (.ref (N + 1)) (.ref (N + 2))
  p1 : h.IsListIter N l1 i
  p2 : h.IsListIter (N + 1) l2 i
  p3 : h.IsListIter (N + 2) l3 i
  q1 : h.IsList l1 xs
  q2 : h.IsList l2 ys
  q3 : h.IsList l3 zs
/-- the zip: ahead of the first turn, or its first tuple is somebody's -/
def Own (N i : Nat) (h : Heap) : Prop := (i = 0 ∧ IsZip h (N + 5) (N + 3) (N + 4) .none ∧ ∃ a b c, IsTupOf3 h (N + 4) a b c) ∨ ∃ T f o, N + 6 < T ∧ IsZipHeld h (N + 5) (N + 3) (N + 4) T f ∧ h.get? T = some o
/-- what stands outside of the zip's own things stands as it did -/
def Out (N : Nat) (h h' : Heap) : Prop := ∀ (b : Nat) (o : Obj), (b < N ∨ N + 5 < b) → h.get? b = some o → h'.get? b = some o
section
variable {N l1 l2 l3 i : Nat} {xs ys zs : Array Value} {h h' : Heap}
theorem Its.keep (x : Its N l1 l2 l3 xs ys zs i h) (lt : l1 < N ∧ l2 < N ∧ l3 < N) (k : ∀ (b : Nat) (o : Obj), b < N + 6 → h.get? b = some o → h'.get? b = some o) : Its N l1 l2 l3 xs ys zs i h' :=
  ⟨k _ _ (by omega) x.ti, x.p1.at fun o => k _ o (by omega), x.p2.at fun o => k _ o (by omega), x.p3.at fun o => k _ o (by omega), x.q1.at fun o => k _ o (by omega), x.q2.at fun o => k _ o (by omega), x.q3.at fun o => k _ o (by omega)⟩
theorem Own.keep (x : Own N i h) (k : ∀ (b : Nat) (o : Obj), b ≠ N + 6 → h.get? b = some o → h'.get? b = some o) : Own N i h' := by
  rcases x with ⟨e, a, u, v, w, b⟩ | ⟨T, f, o, l, a, b⟩
  · exact .inl ⟨e, k _ _ (by omega) a, u, v, w, k _ _ (by omega) b⟩
  · exact .inr ⟨T, f, o, l, k _ _ (by omega) a, k _ _ (by omega) b⟩
end
section
variable {P : Program} {w : World} {A : Around} {E : Value → Shared → Prop} {s : Shared} {N l1 l2 l3 i : Nat} {xs ys zs : Array Value} {x y u : Value}
/-- a turn of a zip whose tuple is somebody's: three draws, and a new tuple -/
theorem next_new {T : Addr} {f : Bool} {o : Obj} {Q : Value → Shared → Prop} (lt : l1 < N ∧ l2 < N ∧ l3 < N) (hT : N + 6 < T) (z : IsZipHeld s.heap (N + 5) (N + 3) (N + 4) T f) (ho : s.heap.get? T = some o) (X : Its N l1 l2 l3 xs ys zs i s.heap)
    (hx : xs[i]? = some x) (hy : ys[i]? = some y) (hu : zs[i]? = some u)
    (k : ∀ h', Its N l1 l2 l3 xs ys zs (i + 1) h' → Own N (i + 1) h' → Out N s.heap h' → IsTupOf3 h' s.heap.objs.size x y u → h'.objs.size = s.heap.objs.size + 1 → Q (.ref s.heap.objs.size) { s with heap := h' }) :
    wpAny (model P w) A (Builtin.«zip.__next__» ⟨[.ref (N + 5)], []⟩) (fun fin s' => ∃ v, fin = .done (.ret v) ∧ Q v s') E s := by
  refine (show wpAny _ _ (field (.ref (N + 5)) 2 >>= _) _ _ _ from wpAny_bind (wpAny_field z rfl (x := .bool false) rfl (show wpAny _ _ (field (.ref (N + 5)) 3 >>= _) _ _ _ from wpAny_bind (wpAny_field z rfl (x := .ref (N + 3)) rfl (wpAny_bind (wpAny_seqItems X.ti rfl ?_))))))
  refine (show wpAny _ _ (Builtin.SmallTypes.ownedTupleIsFree (.ref (N + 5)) >>= _) _ _ _ from wpAny_bind (wpAny_tupleHeld_zip z ho fun h1 z1 e1 => ?_))
  have X1 := X.p1.extBut e1.extBut (nn (p := N) (q := N + 5) (by omega))
  have X2 := X.p2.extBut e1.extBut (nn (p := N + 1) (q := N + 5) (by omega))
  have X3 := X.p3.extBut e1.extBut (nn (p := N + 2) (q := N + 5) (by omega))
  have Y1 := X.q1.extBut e1.extBut (nn (p := l1) (q := N + 5) (by omega))
  have Y2 := X.q2.extBut e1.extBut (nn (p := l2) (q := N + 5) (by omega))
  have Y3 := X.q3.extBut e1.extBut (nn (p := l3) (q := N + 5) (by omega))
  simp only [Bool.false_eq_true, if_false, ← Array.forIn_toList, List.forIn_cons, List.forIn_nil]
  refine wpAny_bind (wpAny_bind (wpAny_bind (wpAny_holding (show wpAny _ _ (Builtin.SmallTypes.nextOf (.ref N) >>= _) _ _ _ from wpAny_bind (wpAny_nextOf_list_item (s := { s with heap := h1 }) X1 Y1 hx fun h2 Z1 e2 => wpAny_pure (wpAny_pure ?_))))))
  refine wpAny_bind (wpAny_bind (wpAny_holding (show wpAny _ _ (Builtin.SmallTypes.nextOf (.ref (N + 1)) >>= _) _ _ _ from wpAny_bind (wpAny_nextOf_list_item (s := { s with heap := h2 }) (X2.extBut e2.extBut (nn (p := N + 1) (q := N) (by omega))) (Y2.extBut e2.extBut (nn (p := l2) (q := N) (by omega))) hy fun h3 Z2 e3 => wpAny_pure (wpAny_pure ?_)))))
  refine wpAny_bind (wpAny_bind (wpAny_holding (show wpAny _ _ (Builtin.SmallTypes.nextOf (.ref (N + 2)) >>= _) _ _ _ from wpAny_bind (wpAny_nextOf_list_item (s := { s with heap := h3 }) ((X3.extBut e2.extBut (nn (p := N + 2) (q := N) (by omega))).extBut e3.extBut (nn (p := N + 2) (q := N + 1) (by omega))) ((Y3.extBut e2.extBut (nn (p := l3) (q := N) (by omega))).extBut e3.extBut (nn (p := l3) (q := N + 1) (by omega))) hu fun h4 Z3 e4 => wpAny_pure (wpAny_pure ?_)))))
  refine wpAny_pure (show wpAny _ _ (newTuple [x, y, u] >>= _) _ _ _ from wpAny_bind (wpAny_newTuple (wpAny_pure ⟨_, rfl, ?_⟩)))
  have ez : h4.objs.size = s.heap.objs.size := by rw [e4.1, e3.1, e2.1, e1.1]
  have at4 : IsTupOf3 (h4.push { cls := .type "tuple", data := .seq #[x, y, u] }) h4.objs.size x y u := Heap.get?_push_size _ rfl
  have up : ∀ (b : Nat) (o : Obj), b ≠ N → b ≠ N + 1 → b ≠ N + 2 → h1.get? b = some o → (h4.push { cls := .type "tuple", data := .seq #[x, y, u] }).get? b = some o := fun b o c1 c2 c3 e => Heap.get?_push_of_some _ (e4.extBut _ _ c3 (e3.extBut _ _ c2 (e2.extBut _ _ c1 e)))
  have far : Out N s.heap (h4.push { cls := .type "tuple", data := .seq #[x, y, u] }) := fun b o c e => up b o (by omega) (by omega) (by omega) (e1.extBut _ _ (nn (p := b) (q := N + 5) (by omega)) e)
  have eT : h1.get? T = some o := e1.extBut _ _ (nn (p := T) (q := N + 5) (by omega)) ho
  have sz : (h4.push { cls := .type "tuple", data := .seq #[x, y, u] }).objs.size = h4.objs.size + 1 := Heap.size_push ..
  have r := k (h4.push { cls := .type "tuple", data := .seq #[x, y, u] })
    ⟨up (N + 3) _ (by omega) (by omega) (by omega) (e1.extBut _ _ (nn (p := N + 3) (q := N + 5) (by omega)) X.ti), ((Z1.extBut e3.extBut (nn (p := N) (q := N + 1) (by omega))).extBut e4.extBut (nn (p := N) (q := N + 2) (by omega))).at fun o e => Heap.get?_push_of_some _ e,
      (Z2.extBut e4.extBut (nn (p := N + 1) (q := N + 2) (by omega))).at fun o e => Heap.get?_push_of_some _ e, Z3.at fun o e => Heap.get?_push_of_some _ e, Y1.at fun o => up _ o (by omega) (by omega) (by omega), Y2.at fun o => up _ o (by omega) (by omega) (by omega), Y3.at fun o => up _ o (by omega) (by omega) (by omega)⟩
    (.inr ⟨T, true, o, hT, up (N + 5) _ (by omega) (by omega) (by omega) z1, up T _ (by omega) (by omega) (by omega) eT⟩) far (by rw [← ez]; exact at4) (by rw [sz, ez])
  rw [← ez] at r
  exact r
/-- and its end -/
theorem next_done {T : Addr} {f : Bool} {o : Obj} {Q : Fin → Shared → Prop} (hh : A.handled = none) (lt : l1 < N) (z : IsZipHeld s.heap (N + 5) (N + 3) (N + 4) T f) (ho : s.heap.get? T = some o) (X : Its N l1 l2 l3 xs ys zs i s.heap) (hx : xs[i]? = none)
    (k : ∀ h' e, Out N s.heap h' → (∃ o, h'.get? e = some o ∧ o.cls = .type "StopIteration") → E (.ref e) { s with heap := h' }) : wpAny (model P w) A (Builtin.«zip.__next__» ⟨[.ref (N + 5)], []⟩) Q E s := by
  refine (show wpAny _ _ (field (.ref (N + 5)) 2 >>= _) _ _ _ from wpAny_bind (wpAny_field z rfl (x := .bool false) rfl (show wpAny _ _ (field (.ref (N + 5)) 3 >>= _) _ _ _ from wpAny_bind (wpAny_field z rfl (x := .ref (N + 3)) rfl (wpAny_bind (wpAny_seqItems X.ti rfl ?_))))))
  refine (show wpAny _ _ (Builtin.SmallTypes.ownedTupleIsFree (.ref (N + 5)) >>= _) _ _ _ from wpAny_bind (wpAny_tupleHeld_zip z ho fun h1 z1 e1 => ?_))
  simp only [Bool.false_eq_true, if_false, ← Array.forIn_toList, List.forIn_cons, List.forIn_nil]
  refine wpAny_bind (wpAny_bind (wpAny_bind (wpAny_holding (show wpAny _ _ (Builtin.SmallTypes.nextOf (.ref N) >>= _) _ _ _ from wpAny_bind (wpAny_nextOf_list_end (s := { s with heap := h1 }) hh (X.p1.extBut e1.extBut (nn (p := N) (q := N + 5) (by omega))) (X.q1.extBut e1.extBut (nn (p := l1) (q := N + 5) (by omega))) hx fun h2 e e2 he => ?_)))))
  exact k h2 e (fun b o c q => e2 _ _ (nn (p := b) (q := N) (by omega)) (e1.extBut _ _ (nn (p := b) (q := N + 5) (by omega)) q)) he
/-- what makes the zip's things apart -/
theorem apart (lt : l1 < N ∧ l2 < N ∧ l3 < N) : ZipSep3 (N + 5) (N + 3) (N + 4) N (N + 1) (N + 2) [N, l1] [N + 1, l2] [N + 2, l3] := by
  obtain ⟨a, b, c⟩ := lt
  have ne : ∀ {p q : Nat}, p ≠ q → (p : Addr) ≠ q := fun h => h
  have no : ∀ {p q r : Nat}, p ≠ q → p ≠ r → (p : Addr) ∉ [q, r] := fun {p q r} h1 h2 e => by
    rcases List.mem_cons.mp e with e | e
    · exact h1 e
    · exact h2 (List.mem_singleton.mp e)
  constructor <;> first | exact List.mem_cons_self | exact ne (by omega) | exact no (by omega) (by omega)
/-- a turn of the zip, whichever -/
theorem turn {Q : Option Value → Shared → Prop} (hh : A.handled = none) (lt : l1 < N ∧ l2 < N ∧ l3 < N) (big : N + 6 < s.heap.objs.size) (O : Own N i s.heap) (X : Its N l1 l2 l3 xs ys zs i s.heap) (hx : xs[i]? = some x) (hy : ys[i]? = some y) (hu : zs[i]? = some u)
    (k : ∀ h' tk, Its N l1 l2 l3 xs ys zs (i + 1) h' → Own N (i + 1) h' → Out N s.heap h' → IsTupOf3 h' s.heap.objs.size x y u → h'.objs.size = s.heap.objs.size + 1 → Q (some (.ref s.heap.objs.size)) { s with heap := h', toks := tk }) :
    wpAny (model P w) A (pyNext (.ref (N + 5))) Q E s := by
  rcases O with ⟨rfl, z, a, b, c, t⟩ | ⟨T, f, o, hT, z, ho⟩
  · have some_ : ∀ {vs : Array Value} {v : Value}, vs[0]? = some v → 0 < vs.size := fun h => (Array.getElem?_eq_some_iff.mp h).1
    refine wpAny_pyNext_zipD3_item (i := 0) (apart lt) (Draws.list (A := A.in1) hh N l1 (nn (by omega)) xs) (Draws.list (A := A.in1) hh (N + 1) l2 (nn (by omega)) ys) (Draws.list (A := A.in1) hh (N + 2) l3 (nn (by omega)) zs) z X.ti t ⟨X.p1, X.q1⟩ ⟨X.p2, X.q2⟩ ⟨X.p3, X.q3⟩ (some_ hx) (some_ hy) (some_ hu)
      fun x1 x2 x3 h' tk v1 v2 v3 c1 c2 c3 c4 c5 c6 c7 c8 => ?_
    cases hx.symm.trans v1
    cases hy.symm.trans v2
    cases hu.symm.trans v3
    refine k h' tk ⟨c8 (N + 3) _ (nn (by omega)) (nn (by omega)) (nn (by omega)) (nn (by omega)) (nn (by omega)) X.ti, c3.1, c4.1, c5.1, c3.2, c4.2, c5.2⟩ (.inr ⟨s.heap.objs.size, false, _, big, c1, c6⟩) (fun b o c e => c8 b o (nn (by omega)) (nn (by omega)) (nn (by omega)) (nn (by omega)) (nn (by omega)) e) c6 c7
  · have ty : s.TypeIs (.ref (N + 5)) "zip" := ⟨_, z, rfl⟩
    unfold pyNext
    exact wpAny_bind (wpAny_attempt (wpAny_callSpecial?_slot (name := Str.ofString "__next__") ty F.slot_zip_next (wpAny_call_entry F.slot_zip_next ty F.entry_zip_next (next_new lt hT z ho X hx hy hu fun h' g1 g2 g3 g4 g5 => wpAny_pure (k h' s.toks g1 g2 g3 g4 g5)) (F.args_zip_next_1 _))))
theorem over {Q : Option Value → Shared → Prop} (hh : A.handled = none) (lt : l1 < N ∧ l2 < N ∧ l3 < N) (O : Own N i s.heap) (X : Its N l1 l2 l3 xs ys zs i s.heap) (hi : i = xs.size) (hy : xs.size = ys.size) (hu : xs.size = zs.size)
    (k : ∀ h' tk, Out N s.heap h' → Q none { s with heap := h', toks := tk }) : wpAny (model P w) A (pyNext (.ref (N + 5))) Q E s := by
  rcases O with ⟨rfl, z, a, b, c, t⟩ | ⟨T, f, o, hT, z, ho⟩
  · exact wpAny_pyNext_zipD3_end (i := 0) (apart lt) (Draws.list (A := A.in1) hh N l1 (nn (by omega)) xs) (Draws.list (A := A.in1) hh (N + 1) l2 (nn (by omega)) ys) (Draws.list (A := A.in1) hh (N + 2) l3 (nn (by omega)) zs) z X.ti t ⟨X.p1, X.q1⟩ ⟨X.p2, X.q2⟩ ⟨X.p3, X.q3⟩ (Nat.zero_le _) (Nat.zero_le _) (Nat.zero_le _) (.inl hi)
      fun h' tk c8 => k h' tk fun b o c e => c8 b o (nn (by omega)) (nn (by omega)) (nn (by omega)) (nn (by omega)) (nn (by omega)) e
  · have ty : s.TypeIs (.ref (N + 5)) "zip" := ⟨_, z, rfl⟩
    unfold pyNext
    refine wpAny_bind (wpAny_attempt (wpAny_callSpecial?_slot (name := Str.ofString "__next__") ty F.slot_zip_next (wpAny_call_entry F.slot_zip_next ty F.entry_zip_next (next_done hh lt.1 z ho X (Array.getElem?_eq_none (by omega)) fun h' e g1 ⟨o', g2, g3⟩ => ?_) (F.args_zip_next_1 _))))
    exact wpAny_bind (wpAny_isInstance (T := "StopIteration") (b := true) ⟨o', g2, g3⟩ isSubtype_stop (wpAny_pure (k h' s.toks g1)))
/-- the tuples that were given out -/
structure Tups (N : Nat) (xs ys zs : Array Value) (h : Heap) (as : List Addr) : Prop where
  nd : as.Nodup
  lo : ∀ t ∈ as, @LT.lt Nat _ (N + 6) t
  hi : ∀ t ∈ as, @LT.lt Nat _ t h.objs.size
  at_ : ∀ (j : Nat) (t : Addr), as[j]? = some t → ∃ x y u, xs[j]? = some x ∧ ys[j]? = some y ∧ zs[j]? = some u ∧ IsTupOf3 h t x y u
abbrev lst (acc : Array Value) (c : Nat) : Obj := { cls := .type "list", dict := none, data := .seq acc c, slots := #[] }
/-- what is there at any time: the list of what was given out -/
structure Given (N : Nat) (xs ys zs : Array Value) (s : Shared) (as : List Addr) (h : Heap) : Prop where
  old : ∀ (b : Nat) (o : Obj), b < N → s.heap.get? b = some o → h.get? b = some o
  l : ∃ c, h.get? (N + 6) = some (lst (as.map Value.ref).toArray c)
  tups : Tups N xs ys zs h as
/-- amid the walk -/
structure Amid (N l1 l2 l3 : Nat) (xs ys zs : Array Value) (s : Shared) (as : List Addr) (h : Heap) : Prop extends Given N xs ys zs s as h where
  its : Its N l1 l2 l3 xs ys zs as.length h
  own : Own N as.length h
theorem den_of {id : String} {b : Builtin} {args : Args} (e : entryFor table id = some b) : (model P w).den (.builtin id args) = b args := by
  show (match entryFor table id with | some b => b args | none => unsupported ((withoutEnding? id "#data").getD id)) = _
  rw [e]
theorem upd_off (h : Heap) (a b : Nat) (f : Obj → Obj) (ne : b ≠ a) {o : Obj} (e : h.get? b = some o) : (h.update a f).get? b = some o := (Heap.get?_update_other _ _ (nn (Ne.symm ne))).trans e
theorem walk {R : Result → Shared → Prop} (hh : A.handled = none) (lt : l1 < N ∧ l2 < N ∧ l3 < N) (hy : xs.size = ys.size) (hu : xs.size = zs.size) (hn : xs.size ≤ sizeLine) {h : Heap} {tk : Nat} (J : Amid N l1 l2 l3 xs ys zs s [] h) (res : Value)
    (out : ∀ h' tk' as, Given N xs ys zs s as h' → as.length = xs.size → R (.ok (.ret res)) { s with heap := h', toks := tk' }) :
    codeAny (model P w) A (.builtin "list.extend.loop" ⟨[.ref (N + 6), .ref (N + 5), res], []⟩) R { s with heap := h, toks := tk } := by
  have pl : plainId "list.extend.loop" = true := by decide +kernel
  refine codeAny_loop (plainId_quiet pl _) (fun left s' => ∃ as g t, as.length + left = xs.size ∧ s' = { s with heap := g, toks := t } ∧ Amid N l1 l2 l3 xs ys zs s as g) (fun left s1 q => ?_) xs.size ⟨[], h, tk, by simp, rfl, J⟩
  obtain ⟨as, g, t, hl, rfl, J⟩ := q
  rw [Around.under_plainId pl _]
  rw [den_of (b := Builtin.«list.extend.loop») PySem.F.entry_extend_loop]
  show wpAny _ _ (pyNext (.ref (N + 5)) >>= _) _ _ _
  obtain ⟨c, hS⟩ := J.l
  have big : @LT.lt Nat _ (N + 6) g.objs.size := Heap.lt_size hS
  cases left with
  | zero =>
    refine wpAny_bind (over (s := { s with heap := g, toks := t }) (A := A.in1) hh lt J.own J.its (by omega) hy hu fun h' tk' far => wpAny_pure ?_)
    have live : ∀ t ∈ as, @LT.lt Nat _ t h'.objs.size := fun t ht => by
      obtain ⟨j, hj⟩ := List.mem_iff_getElem?.mp ht
      obtain ⟨x, y, u, _, _, _, e⟩ := J.tups.at_ j t hj
      exact Heap.lt_size (far t _ (.inr (by have := J.tups.lo t ht; omega)) e)
    refine out h' tk' as ⟨fun b o q e => far b o (.inl q) (J.old b o q e), ⟨c, far (N + 6) _ (.inr (by omega)) hS⟩, J.tups.nd, J.tups.lo, live, fun j t hj => ?_⟩ (by omega)
    obtain ⟨x, y, u, e1, e2, e3, e⟩ := J.tups.at_ j t hj
    exact ⟨x, y, u, e1, e2, e3, far t _ (.inr (by have := J.tups.lo t (List.mem_of_getElem? hj); omega)) e⟩
  | succ left =>
    have i1 : xs[as.length]? = some xs[as.length] := Array.getElem?_eq_getElem (by omega)
    have i2 : ys[as.length]? = some ys[as.length] := Array.getElem?_eq_getElem (by omega)
    have i3 : zs[as.length]? = some zs[as.length] := Array.getElem?_eq_getElem (by omega)
    refine wpAny_bind (turn (s := { s with heap := g, toks := t }) (A := A.in1) hh lt big J.own J.its i1 i2 i3 fun h' tk' X' O' far tp sz => ?_)
    dsimp only at far tp sz ⊢
    have hS' := far (N + 6) _ (.inr (by omega)) hS
    have up : ∀ (b : Nat) (o : Obj), b ≠ N + 6 → h'.get? b = some o → (h'.update (N + 6) (Obj.mapSeq (·.push (Value.ref g.objs.size)))).get? b = some o := fun b o ne e => upd_off h' (N + 6) b _ ne e
    have lens : (as.map Value.ref).toArray.size = as.length := by simp
    show wpAny _ _ (updateSeq (N + 6) (·.push (Value.ref g.objs.size)) >>= _) _ _ _
    refine wpAny_bind (wpAny_updateSeq hS' rfl (wpAny_pure ⟨rfl, left, Nat.lt_succ_self left, as ++ [g.objs.size], _, tk', ?_, rfl, ?_⟩) (by rw [lens]; omega) (by rw [Array.size_push, lens]; omega))
    · rw [List.length_append, List.length_singleton]; omega
    · have fresh : ∀ t ∈ as, t ≠ g.objs.size := fun t ht => Nat.ne_of_lt (J.tups.hi t ht)
      have len1 : (as ++ [g.objs.size]).length = as.length + 1 := by simp
      refine ⟨⟨fun b o q e => up b o (by omega) (far b o (.inl q) (J.old b o q e)), ⟨_, (Heap.get?_update_self _ hS' rfl).trans (by simp [Obj.mapSeq]; rfl)⟩, ?_⟩, by rw [len1]; exact X'.keep lt fun b o q e => up b o (by omega) e, by rw [len1]; exact O'.keep fun b o q e => up b o q e⟩
      · refine ⟨?_, fun t ht => ?_, fun t ht => ?_, fun j t hj => ?_⟩
        · refine List.nodup_append.mpr ⟨J.tups.nd, by simp, fun a ha b hb => ?_⟩
          rw [List.mem_singleton.mp hb]
          exact fresh a ha
        · rcases List.mem_append.mp ht with q | q
          · exact J.tups.lo t q
          · rw [List.mem_singleton.mp q]; exact big
        · have z : (h'.update (N + 6) (Obj.mapSeq (·.push (Value.ref g.objs.size)))).objs.size = g.objs.size + 1 := by rw [← sz]; simp
          have q' : @LT.lt Nat _ t (g.objs.size + 1) := by
            rcases List.mem_append.mp ht with q | q
            · exact Nat.lt_succ_of_lt (J.tups.hi t q)
            · rw [List.mem_singleton.mp q]; exact Nat.lt_succ_self _
          rw [← z] at q'
          exact q'
        · by_cases q : j < as.length
          · rw [List.getElem?_append_left q] at hj
            obtain ⟨x, y, u, e1, e2, e3, e4⟩ := J.tups.at_ j t hj
            have lo := J.tups.lo t (List.mem_of_getElem? hj)
            exact ⟨x, y, u, e1, e2, e3, up t _ (by omega) (far t _ (.inr (by omega)) e4)⟩
          · have ej : j = as.length := by
              have := (List.getElem?_eq_some_iff.mp hj).1
              rw [len1] at this
              omega
            subst ej
            rw [List.getElem?_append_right (Nat.le_refl _), Nat.sub_self] at hj
            cases hj
            exact ⟨_, _, _, i1, i2, i3, up _ _ (by omega) tp⟩
theorem no_len : typeLookup (.type "zip") "__len__" = pure none := by rw [typeLookup_type, builtinLookup_eq_fast]; kernel_rfl
theorem no_hint : typeLookup (.type "zip") "__length_hint__" = pure none := by rw [typeLookup_type, builtinLookup_eq_fast]; kernel_rfl
/-- list.__init__ over the zip -/
theorem filled {R : Result → Shared → Prop} {h : Heap} {c0 : Nat} (hh : A.handled = none) (lt : l1 < N ∧ l2 < N ∧ l3 < N) (hy : xs.size = ys.size) (hu : xs.size = zs.size) (hn : xs.size ≤ sizeLine) (hS : h.get? (N + 6) = some (lst #[] c0)) (X : Its N l1 l2 l3 xs ys zs 0 h) (z : IsZip h (N + 5) (N + 3) (N + 4) .none) (t : ∃ a b c, IsTupOf3 h (N + 4) a b c)
    (old : ∀ (b : Nat) (o : Obj), b < N → s.heap.get? b = some o → h.get? b = some o)
    (out : ∀ h' tk' as, Given N xs ys zs s as h' → as.length = xs.size → R (.ok (.ret .none)) { s with heap := h', toks := tk' }) :
    wpAny (model P w) A.in1 (Builtin.«list.__init__» ⟨[.ref (N + 6), .ref (N + 5)], []⟩) (fun fin s' => match fin with | .done f => R (.ok f) s' | .again c' => c'.quiet = true ∧ codeAny (model P w) A c' R s') (fun e s' => R (.error e) s') { s with heap := h } := by
  -- any change of the list alone
  have un : ∀ (f : Obj → Obj) {g : Heap}, (∀ (b : Nat) (o : Obj), b ≠ N + 6 → h.get? b = some o → g.get? b = some o) → ∀ (b : Nat) (o : Obj), b ≠ N + 6 → h.get? b = some o → (g.update (N + 6) f).get? b = some o := fun f g k b o q e => upd_off g (N + 6) b f q (k b o q e)
  refine (show wpAny _ _ (Builtin.List.listItems (.ref (N + 6)) >>= _) _ _ _ from wpAny_bind ?_)
  unfold Builtin.List.listItems
  refine wpAny_bind (wpAny_seqItems hS rfl (wpAny_pure ?_))
  refine (show wpAny _ _ (updateSeq (N + 6) (fun _ => #[]) >>= fun _ => letGo (#[] : Array Value).toList.reverse >>= fun _ => Builtin.List.listExtendWith (.ref (N + 6)) (.ref (N + 5)) .none) _ _ _ from wpAny_bind (wpAny_updateSeq hS rfl (wpAny_bind (wpAny_letGo ?_))))
  have s1 := Heap.get?_update_self (Obj.mapSeq fun _ => (#[] : Array Value)) hS rfl
  have k1 := un (Obj.mapSeq fun _ => (#[] : Array Value)) (g := h) fun b o _ e => e
  unfold Builtin.List.listExtendWith
  have z1 := k1 (N + 5) _ (by omega) z
  have ty : Shared.TypeIs { s with heap := h.update (N + 6) (Obj.mapSeq fun _ => (#[] : Array Value)) } (.ref (N + 5)) "zip" := ⟨_, z1, rfl⟩
  refine wpAny_bind (wpAny_typeOf ty ?_)
  rw [if_neg (by simp [Builtin.List.listSameRef])]
  refine wpAny_bind (wpAny_pyIter_zip z1 (wpAny_bind (wpAny_holding ?_)))
  unfold Builtin.List.listLengthHint
  refine wpAny_bind (wpAny_specialOf ty no_len (wpAny_ite_split (fun q => absurd q (by decide +kernel)) fun _ => wpAny_ite_split (fun q => absurd q (by decide)) fun _ => wpAny_bind (wpAny_specialOf ty no_hint (wpAny_pure ?_))))
  refine wpAny_ite_split (fun _ => ?_) fun q => absurd rfl q
  refine wpAny_bind (wpAny_rule (show wpAny _ _ ((updateSeq (N + 6) (·.push .none) >>= fun _ => updateSeq (N + 6) (·.pop)) >>= _) _ _ _ from wpAny_bind (wpAny_bind (wpAny_updateSeq s1 rfl ?_))))
  have s2 := Heap.get?_update_self (Obj.mapSeq (·.push Value.none)) s1 rfl
  have k2 := un (Obj.mapSeq (·.push Value.none)) k1
  refine wpAny_updateSeq (hz := by seq_fits) s2 rfl (wpAny_pure ⟨plainId_quiet (by decide +kernel) _, ?_⟩)
  have s3 := Heap.get?_update_self (Obj.mapSeq (·.pop)) s2 rfl
  have k3 := un (Obj.mapSeq (·.pop)) k2
  obtain ⟨a, b, c, t⟩ := t
  exact walk (s := s) hh lt hy hu hn ⟨⟨fun b o q e => k3 b o (by omega) (old b o q e), ⟨_, s3⟩, List.nodup_nil, fun _ q => (nomatch q), fun _ q => (nomatch q), fun j t q => by simp at q⟩, X.keep lt fun b o q e => k3 b o (by omega) e, .inl ⟨rfl, k3 (N + 5) _ (by omega) z, a, b, c, k3 (N + 4) _ (by omega) t⟩⟩ .none out
theorem listed {Q : Value → Shared → Prop} (hh : A.handled = none) (lt : l1 < N ∧ l2 < N ∧ l3 < N) (sz : s.heap.objs.size = N + 6) (hy : xs.size = ys.size) (hu : xs.size = zs.size) (hn : xs.size ≤ sizeLine) (X : Its N l1 l2 l3 xs ys zs 0 s.heap) (z : IsZip s.heap (N + 5) (N + 3) (N + 4) .none) (t : ∃ a b c, IsTupOf3 s.heap (N + 4) a b c)
    (out : ∀ h' tk' as, Given N xs ys zs s as h' → as.length = xs.size → Q (.ref (N + 6)) { s with heap := h', toks := tk' }) : wpAny (model P w) A (call (.type "list") [.ref (N + 5)]) Q E s := by
  have e0 : (s.heap.objs.size : Addr) = (N + 6 : Nat) := sz
  refine callType_codes (Q₁ := fun v s1 => v = .ref (N + 6) ∧ s1 = { s with heap := s.heap.push (lst #[] 0) }) PySem.F.called_list (PySem.F.typeCall_list_1 _) PySem.F.entry_list_init (code_list_new _ ⟨by rw [e0], rfl⟩) fun v s1 q => ?_
  obtain ⟨rfl, rfl⟩ := q
  have hS : (s.heap.push (lst #[] 0)).get? (N + 6 : Nat) = some (lst #[] 0) := by rw [← e0]; exact Heap.get?_push_size _ rfl
  have k : ∀ (b : Nat) (o : Obj), s.heap.get? b = some o → (s.heap.push (lst #[] 0)).get? b = some o := fun b o e => Heap.get?_push_of_some _ e
  obtain ⟨a, b, c, t⟩ := t
  exact ⟨⟨_, hS, rfl⟩, PySem.F.args_list_init_2 _ _, filled (A := A.in1) hh lt hy hu hn hS (X.keep lt fun b o _ e => k b o e) (k _ _ z) ⟨a, b, c, k _ _ t⟩ (fun b o _ e => k b o e) fun h' tk' as g hl => ⟨rfl, out h' tk' as g hl⟩⟩
end
end Zl
end PySem
set_option Elab.async false
set_option linter.all false
set_option maxRecDepth 100000
set_option maxHeartbeats 2000000
namespace L2
open PySem PySem.Spec PyProof.Rows
def putN : Hp → List Addr → List (List V) → Hp
  | H, a :: as, t :: ts => putN (upd H a (.tup t)) as ts
  | H, _, _ => H
theorem putN_off {b : Addr} : ∀ (as : List Addr) (ts : List (List V)) (H : Hp), b ∉ as → putN H as ts b = H b
  | [], _, _, _ => rfl
  | _ :: _, [], _, _ => rfl
  | a :: as, t :: ts, H, h => by
    show putN (upd H a (.tup t)) as ts b = H b
    rw [putN_off as ts _ (fun z => h (List.mem_cons_of_mem _ z)), upd_ne (fun z => h (by rw [z]; exact List.mem_cons_self))]
theorem putN_at : ∀ (as : List Addr) (ts : List (List V)) (H : Hp), as.length = ts.length → as.Nodup → ∀ (j : Nat) (a : Addr) (t : List V), as[j]? = some a → ts[j]? = some t → putN H as ts a = some (.tup t)
  | [], _, _, _, _, j, a, t, h, _ => by simp at h
  | _ :: _, [], _, h, _, _, _, _, _, _ => by cases h
  | a :: as, t :: ts, H, h, hn, 0, b, u, h1, h2 => by
    simp at h1 h2
    subst h1 h2
    show putN (upd H a (.tup t)) as ts a = _
    rw [putN_off as ts _ (List.nodup_cons.mp hn).1, upd_same]
  | a :: as, t :: ts, H, h, hn, j + 1, b, u, h1, h2 => putN_at as ts (upd H a (.tup t)) (Nat.succ.inj h) (List.nodup_cons.mp hn).2 j b u (by simpa using h1) (by simpa using h2)
/-- the triples -/
def zip3V : List V → List V → List V → List (List V)
  | x :: xs, y :: ys, z :: zs => [x, y, z] :: zip3V xs ys zs
  | _, _, _ => []
theorem zip3V_at : ∀ (xs ys zs : List V) (j : Nat) (x y z : V), xs[j]? = some x → ys[j]? = some y → zs[j]? = some z → (zip3V xs ys zs)[j]? = some [x, y, z]
  | x :: xs, y :: ys, z :: zs, 0, a, b, c, h1, h2, h3 => by simp at h1 h2 h3; subst h1 h2 h3; rfl
  | x :: xs, y :: ys, z :: zs, j + 1, a, b, c, h1, h2, h3 => by
    have ih := zip3V_at xs ys zs j a b c (by simpa using h1) (by simpa using h2) (by simpa using h3)
    simpa [zip3V] using ih
  | [], _, _, _, _, _, _, h, _, _ => by simp at h
  | _ :: _, [], _, _, _, _, _, _, h, _ => by simp at h
  | _ :: _, _ :: _, [], _, _, _, _, _, _, h => by simp at h
theorem zip3V_length : ∀ (xs ys zs : List V) (n : Nat), xs.length = n → ys.length = n → zs.length = n → (zip3V xs ys zs).length = n
  | [], ys, zs, n, h, _, _ => by subst h; rfl
  | x :: xs, [], zs, n, h, h2, _ => by rw [← h] at h2; cases h2
  | x :: xs, y :: ys, [], n, h, _, h3 => by rw [← h] at h3; cases h3
  | x :: xs, y :: ys, z :: zs, n, h, h2, h3 => by
    cases n with
    | zero => cases h
    | succ n => rw [show (zip3V (x :: xs) (y :: ys) (z :: zs)).length = (zip3V xs ys zs).length + 1 from rfl, zip3V_length xs ys zs n (Nat.succ.inj h) (Nat.succ.inj h2) (Nat.succ.inj h3)]
theorem valsBack : ∀ {xs : List V} {us : List Value} {j : Nat} {u : Value}, Vals xs us → us[j]? = some u → ∃ x, xs[j]? = some x ∧ RelV x u
  | _, _, j, u, .nil, h => by simp at h
  | _, _, 0, u, .cons r _, h => by simp at h; subst h; exact ⟨_, rfl, r⟩
  | _, _, j + 1, u, .cons _ t, h => by
    obtain ⟨x, h1, h2⟩ := valsBack (j := j) (u := u) t (by simpa using h)
    exact ⟨x, by simpa using h1, h2⟩
def tZip3 (K : PySem.W.Frag) (ta : TA) : TE := fun σ H Q => ta σ H fun vs H1 => ∃ l1 l2 l3 xs ys zs n, vs = [.ref l1, .ref l2, .ref l3] ∧ SqL K H1 l1 xs ∧ SqL K H1 l2 ys ∧ SqL K H1 l3 zs ∧ xs.length = n ∧ ys.length = n ∧ zs.length = n ∧
  ∀ (H' : Hp) (p : Addr) (ts : List Addr), (∀ b o, H1 b = some o → H' b = some o) → H1 p = none → (∀ t ∈ ts, H1 t = none) → p ∉ ts → H' p = some (.lst (ts.map V.ref)) → ts.length = n →
    (∀ (j : Nat) (t : Addr) (u : List V), ts[j]? = some t → (zip3V xs ys zs)[j]? = some u → H' t = some (.tup u)) → (∀ b, H1 b = none → b ≠ p → b ∉ ts → H' b = none) → Q (.ref p) H'
section
variable {X : Cx}
theorem pe_listZip3 {a b c : Expr} {ta : TA} {p p2 q pos : Pos} (hc : X.calm = true) (hg : Gl X "list") (hm : X.mg "list" = none) (hg2 : Gl X "zip") (hm2 : X.mg "zip" = none) (ha : PA X [a, b, c] ta)
    (na : starEach [.Call (.Name "zip" p2) [a, b, c] [] q] X.env = (false, eval (.Call (.Name "zip" p2) [a, b, c] [] q) X.env) :: starEach [] X.env := by rfl)
    (hs : starEach [a, b, c] X.env = (false, eval a X.env) :: starEach [b, c] X.env := by rfl) (hpl : (backTo q (starEach [b, c] X.env)).any (·.1) = false := by rfl) :
    PE X (.Call (.Name "list" p) [.Call (.Name "zip" p2) [a, b, c] [] q] [] pos) (tZip3 X.K ta) := by
  refine ⟨fun pins s σ H Q I h => ?_⟩
  refine Call_ (ld_blt I hg hm boot_list (PyProof.Rows.callWith_type1 (args_cons ?_ na) na))
  refine Call_ (ld_blt I hg2 hm2 PyProof.Rows.boot_zip (PyProof.Rows.callWith_type1 (thn (ha.run q pins s σ H _ I h) fun us s1 ⟨vs, H1, I1, r1, q1⟩ => ?_) hs hpl))
  obtain ⟨l1, l2, l3, xs, ys, zs, n, ex, hx, hy, hz, n1, n2, n3, qq⟩ := q1
  subst ex
  cases r1 with
  | cons ra rr => cases rr with
    | cons rb rr => cases rr with
      | cons rc rr =>
        cases rr
        cases ra
        cases rb
        cases rc
        obtain ⟨ix, rx, px, zx⟩ := I1.list hx
        obtain ⟨iy, ry, py, zy⟩ := I1.list hy
        obtain ⟨iz, rz, pz, zz⟩ := I1.list hz
        refine zip_begins3 (begins_list l1 ix.toArray) (begins_list l2 iy.toArray) (begins_list l3 iz.toArray) px.isList py.isList pz.isList fun h' z1 z2 z3 z4 z5 z6 z7 z8 => args_nil ?_
        have ltx : l1 < s1.heap.objs.size := by obtain ⟨o, e, _⟩ := px.isList; exact Heap.lt_size e
        have lty : l2 < s1.heap.objs.size := by obtain ⟨o, e, _⟩ := py.isList; exact Heap.lt_size e
        have ltz : l3 < s1.heap.objs.size := by obtain ⟨o, e, _⟩ := pz.isList; exact Heap.lt_size e
        have sx : ix.toArray.size = n := by rw [List.size_toArray, ← rx.length]; exact n1
        have sy : iy.toArray.size = n := by rw [List.size_toArray, ← ry.length]; exact n2
        have sz : iz.toArray.size = n := by rw [List.size_toArray, ← rz.length]; exact n3
        have ln : ix.toArray.size ≤ sizeLine := by rw [sx, ← n1]; exact zx
        refine PySem.Zl.listed (s := { s1 with heap := h' }) (N := s1.heap.objs.size) (I1.ok.hd hc) ⟨ltx, lty, ltz⟩ z7 (sx.trans sy.symm) (sx.trans sz.symm) ln
          ⟨z2, ⟨_, z4, rfl, rfl⟩, ⟨_, z5, rfl, rfl⟩, ⟨_, z6, rfl, rfl⟩, px.isList.at fun o e => z8 _ o e, py.isList.at fun o e => z8 _ o e, pz.isList.at fun o e => z8 _ o e⟩ z1 ⟨_, _, _, z3⟩ fun h'' tk as g hl => ?_
        have low : ∀ b o, s1.heap.get? b = some o → h''.get? b = some o := fun b o e => g.old b o (Heap.lt_size e) (z8 b o e)
        have big : ∀ t ∈ as, s1.heap.objs.size ≤ t := fun t ht => by have q := g.tups.lo t ht; exact Nat.le_trans (Nat.le_add_right _ 6) (Nat.le_of_lt q)
        have bigS : s1.heap.objs.size ≤ (s1.heap.objs.size + 6 : Nat) := Nat.le_add_right _ 6
        have new : ∀ t ∈ as, H1 t = none := fun t ht => I1.hok.fresh (big t ht)
        have newS : H1 (s1.heap.objs.size + 6 : Nat) = none := I1.hok.fresh bigS
        have hSn : (s1.heap.objs.size + 6 : Nat) ∉ as := fun w => Nat.lt_irrefl _ (g.tups.lo _ w)
        have hlen : as.length = n := hl.trans sx
        have hl2 : as.length = (zip3V xs ys zs).length := by rw [hlen, zip3V_length xs ys zs n n1 n2 n3]
        have atP := putN_at as (zip3V xs ys zs) (upd H1 (s1.heap.objs.size + 6 : Nat) (.lst (as.map V.ref))) hl2 g.tups.nd
        have off : ∀ b, b ∉ as → b ≠ (s1.heap.objs.size + 6 : Nat) → putN (upd H1 (s1.heap.objs.size + 6 : Nat) (.lst (as.map V.ref))) as (zip3V xs ys zs) b = H1 b := fun b h1 h2 => by rw [putN_off as _ _ h1, upd_ne h2]
        have lowb : ∀ b o, s1.heap.get? b = some o → b ∉ as ∧ b ≠ (s1.heap.objs.size + 6 : Nat) := fun b o e => ⟨fun w => absurd (Heap.lt_size e) (Nat.not_lt.mpr (big b w)), Nat.ne_of_lt (Nat.lt_of_lt_of_le (Heap.lt_size e) bigS)⟩
        have kp : ∀ b u, H1 b = some u → (putN (upd H1 (s1.heap.objs.size + 6 : Nat) (.lst (as.map V.ref))) as (zip3V xs ys zs)) b = some u := fun b u e => by
          rw [off b (fun w => by rw [new b w] at e; cases e) (fun w => by rw [w, newS] at e; cases e)]
          exact e
        have eS : putN (upd H1 (s1.heap.objs.size + 6 : Nat) (.lst (as.map V.ref))) as (zip3V xs ys zs) (s1.heap.objs.size + 6 : Nat) = some (.lst (as.map V.ref)) := by rw [putN_off as _ _ hSn, upd_same]
        refine ⟨.ref (s1.heap.objs.size + 6 : Nat), _, ?_, rfl, qq _ (s1.heap.objs.size + 6 : Nat) as kp newS new hSn eS hlen (fun j t u h1 h2 => atP j t u h1 h2) fun b hb h1 h2 => by rw [off b h2 h1]; exact hb⟩
        refine I1.call' (s' := { s1 with heap := h'', toks := tk }) (ch := []) rfl ⟨fun b o q _ _ _ => low b o q, fun b o q _ _ _ => ⟨o.slots, low b o q⟩, fun b o q n _ => ?_, fun b o q _ => ⟨o, low b o q⟩, fun b xs q => kp b _ q, fun b o u q => kp b _ q, fun b ps q => ⟨#[], by rw [kp b _ q]; simp⟩⟩ (fun b u q => ?_) I1.bare fun b w => by simp at w
        · obtain ⟨w1, w2⟩ := lowb b o q
          rw [off b w1 w2]
          exact n
        · by_cases hb : b ∈ as
          · obtain ⟨j, hj⟩ := List.mem_iff_getElem?.mp hb
            obtain ⟨x, y, u', e1, e2, e3, e4⟩ := g.tups.at_ j b hj
            obtain ⟨vx, f1, r1⟩ := valsBack rx (show ix[j]? = some x by simpa using e1)
            obtain ⟨vy, f2, r2⟩ := valsBack ry (show iy[j]? = some y by simpa using e2)
            obtain ⟨vz, f3, r3⟩ := valsBack rz (show iz[j]? = some u' by simpa using e3)
            rw [atP j b _ hj (zip3V_at xs ys zs j vx vy vz f1 f2 f3)] at q
            cases q
            exact ⟨by show 3 ≤ sizeLine; decide, [x, y, u'], .cons r1 (.cons r2 (.cons r3 .nil)), ⟨_, e4, rfl, _, rfl⟩⟩
          · by_cases hb2 : b = (s1.heap.objs.size + 6 : Nat)
            · rw [hb2] at q ⊢
              rw [eS] at q
              cases q
              obtain ⟨cc, hL⟩ := g.l
              refine ⟨by rw [List.length_map, hlen, ← n1]; exact zx, as.map Value.ref, cc, LiI.vals_refs as, hL⟩
            · rw [off b hb hb2] at q
              exact (I1.hok b u q).stay (fun d v _ y => low d v y) (fun d y => kp d _ y) fun d xs y => kp d _ y
end
end L2
namespace KR
open PySem L2
def zip3D : List D → List D → List D → List D
  | x :: xs, y :: ys, z :: zs => .tup [x, y, z] :: zip3D xs ys zs
  | _, _, _ => []
def opLZip (o : Om) (xs : List D) : Option D := match xs with
  | [a, b, c] => match lv o a, lv o b, lv o c with
    | some x, some y, some z => if x.length = y.length ∧ y.length = z.length ∧ x.length ≤ 100000 then some (.lst (zip3D x y z)) else none
    | _, _, _ => none
  | _ => none
theorem three_of {K : PySem.W.Frag} {F : Hp} {B : List Addr} {vs : List V} {x y z : D} (h : IsL K F B vs [x, y, z]) : ∃ v u w, vs = [v, u, w] ∧ Is K F B v x ∧ Is K F B u y ∧ Is K F B w z := by
  cases h with
  | cons h1 h2 =>
    obtain ⟨v, u, rfl, h3, h4⟩ := two_of h2
    exact ⟨_, _, _, rfl, h1, h3, h4⟩
theorem zip_isL {K : PySem.W.Frag} {F' : Hp} {B : List Addr} : ∀ {xs ys zs : List V} {x y z : List D} {ts : List Addr}, IsL K F' B xs x → IsL K F' B ys y → IsL K F' B zs z → x.length = y.length → y.length = z.length → ts.length = x.length →
    (∀ (j : Nat) (t : Addr) (u : List V), ts[j]? = some t → (zip3V xs ys zs)[j]? = some u → F' t = some (.tup u)) → IsL K F' B (ts.map V.ref) (zip3D x y z)
  | _, _, _, _, _, _, [], .nil, .nil, .nil, _, _, _, _ => .nil
  | _, _, _, _, _, _, t :: ts, .cons h1 g1, .cons h2 g2, .cons h3 g3, l1, l2, l3, h => by
    refine .cons (.tup (h 0 t _ rfl rfl) (.cons h1 (.cons h2 (.cons h3 .nil)))) (zip_isL g1 g2 g3 (by simpa using l1) (by simpa using l2) (by simpa using l3) fun j t u e1 e2 => h (j + 1) t u (by simpa using e1) ?_)
    show (_ :: zip3V _ _ _)[j + 1]? = some u
    simpa using e2
  | _, _, _, _, _, _, [], .cons _ _, _, _, _, _, l, _ => by cases l
  | _, _, _, _, _, _, _ :: _, .nil, _, _, _, _, l, _ => by cases l
  | _, _, _, _, _, _, _, .nil, .cons _ _, _, l, _, _, _ => by cases l
  | _, _, _, _, _, _, _, .cons _ _, .nil, _, l, _, _, _ => by cases l
  | _, _, _, _, _, _, _, .cons _ _, .cons _ _, .nil, _, l, _, _ => by cases l
  | _, _, _, _, _, _, _, .nil, .nil, .cons _ _, _, l, _, _ => by cases l
section
variable {X : Cx} {C : Addr} {E : XK} {a b c : Expr} {fa : DA} {pos : Pos}
theorem eLZip {p p2 q : Pos} (hc : X.calm = true) (hm : X.mg "list" = none) (hm2 : X.mg "zip" = none) (ha : EA X C E [a, b, c] fa) (hg : Gl X "list" := by rfl) (hg2 : Gl X "zip" := by rfl)
    (na : starEach [.Call (.Name "zip" p2) [a, b, c] [] q] X.env = (false, eval (.Call (.Name "zip" p2) [a, b, c] [] q) X.env) :: starEach [] X.env := by rfl)
    (hs : starEach [a, b, c] X.env = (false, eval a X.env) :: starEach [b, c] X.env := by rfl) (hpl : (backTo q (starEach [b, c] X.env)).any (·.1) = false := by rfl) :
    EX X C E (.Call (.Name "list" p) [.Call (.Name "zip" p2) [a, b, c] [] q] [] pos) (dN opLZip fa) :=
  PE.imp (pe_listZip3 hc hg hm hg2 hm2 ha na hs hpl) fun σ H Q ⟨F, B, ρ, o, e, s, n, c⟩ => ⟨F, B, ρ, o, e, s, n, Con.then c fun xs o1 F1 H1 B1 vs st1 s1 i1 c1 => by
    obtain ⟨z, hz, k⟩ := con_of c1 s1
    match xs, hz, i1 with
    | [x, y, u], hz, i1 =>
      have hz' : (match lv o1 x, lv o1 y, lv o1 u with
        | some x, some y, some z => if x.length = y.length ∧ y.length = z.length ∧ x.length ≤ 100000 then some (D.lst (zip3D x y z)) else none
        | _, _, _ => none) = some z := hz
      obtain ⟨va, vb, vc, rfl, ia, ib, ic⟩ := three_of i1
      cases q1 : lv o1 x with
      | none => rw [q1] at hz'; cases hz'
      | some x' =>
        cases q2 : lv o1 y with
        | none => rw [q1, q2] at hz'; cases hz'
        | some y' =>
          cases q3 : lv o1 u with
          | none => rw [q1, q2, q3] at hz'; cases hz'
          | some u' =>
            rw [q1, q2, q3] at hz'
            simp only at hz'
            by_cases hl : x'.length = y'.length ∧ y'.length = u'.length ∧ x'.length ≤ 100000
            · rw [if_pos hl] at hz'
              cases hz'
              obtain ⟨a1, v1, rfl, h1, j1⟩ := ia.lv s1 st1.fh q1
              obtain ⟨a2, v2, rfl, h2, j2⟩ := ib.lv s1 st1.fh q2
              obtain ⟨a3, v3, rfl, h3, j3⟩ := ic.lv s1 st1.fh q3
              refine ⟨a1, a2, a3, v1, v2, v3, x'.length, rfl, SqL.of h1, SqL.of h2, SqL.of h3, j1.length, by rw [j2.length]; exact hl.1.symm, by rw [j3.length, ← hl.2.1]; exact hl.1.symm, fun H' p ts k1 k2 k3 k4 k5 k6 k7 k8 => ?_⟩
              -- what is known from now on: the tuples and the list
              let F' : Hp := fun b => if b = p ∨ b ∈ ts then H' b else F1 b
              have fp : ∀ b, b = p ∨ b ∈ ts → F1 b = none := fun b hb => by
                rcases hb with rfl | hb
                · exact sub_none st1.fh k2
                · exact sub_none st1.fh (k3 b hb)
              have g : Grow F1 H1 F' H' := by
                refine ⟨fun b o h => ?_, fun b o h => ?_, fun b o h => k1 b o h, fun b h m => ?_⟩
                · show (if b = p ∨ b ∈ ts then H' b else F1 b) = some o
                  by_cases hb : b = p ∨ b ∈ ts
                  · rw [fp b hb] at h; cases h
                  · rw [if_neg hb]; exact h
                · have h' : (if b = p ∨ b ∈ ts then H' b else F1 b) = some o := h
                  by_cases hb : b = p ∨ b ∈ ts
                  · rw [if_pos hb] at h'; exact h'
                  · rw [if_neg hb] at h'; exact k1 b o (st1.fh b o h')
                · have m' : (if b = p ∨ b ∈ ts then H' b else F1 b) ≠ none := m
                  by_cases hb : b = p ∨ b ∈ ts
                  · rcases hb with rfl | hb
                    · exact k2
                    · exact k3 b hb
                  · rw [if_neg hb] at m'; exact (m' h).elim
              have up : ∀ {v : List V} {d : List D}, IsL X.K F1 B1 v d → IsL X.K F' B1 v d := fun h => h.mono g.ff fun _ _ h => h
              refine k F' H' _ g (.lst (a := p) (vs := ts.map V.ref) ?_ (zip_isL (up j1) (up j2) (up j3) hl.1 hl.2.1 k6 fun j t w e1 e2 => ?_))
              · show (if p = p ∨ p ∈ ts then H' p else F1 p) = _
                rw [if_pos (.inl rfl)]; exact k5
              · show (if t = p ∨ t ∈ ts then H' t else F1 t) = _
                rw [if_pos (.inr (List.mem_of_getElem? e1))]; exact k7 j t w e1 e2
            · rw [if_neg hl] at hz'; cases hz'
    | [], hz, _ => cases hz
    | [_], hz, _ => cases hz
    | [_, _], hz, _ => cases hz
    | _ :: _ :: _ :: _ :: _, hz, _ => cases hz⟩
end
end KR
set_option Elab.async false
set_option linter.all false
set_option maxRecDepth 100000
set_option maxHeartbeats 4000000
namespace KR
open PySem PySem.Spec PyProof.Rows L2 LamX
/-! ### the two ways the package's __init__ are written -/
section
variable {X : Cx} {v f : Str} {p1 p2 p3 p4 p5 p6 p7 p8 p9 p10 : Pos}
theorem ini_var (hm : X.mg "KeyrollError" = some (.ref (He.ga X.K "KeyrollError"))) (T0 : KeI X.K (He.ga X.K "KeyrollError")) (h0 : X.N[0]? = some ("self" : Str)) (h1 : X.N[1]? = some v) (v0 : Vis X.env.scope "self") (v1 : Vis X.env.scope v) (d1 : (v == ("__debug__" : Str)) = false) (d2 : (v == ("__classdict__" : Str)) = false)
    {pl : Sem Bool} (hc : eval (.Call (.Attribute (.Name "KeyrollError" p1) "__init__" p2) [.Name "self" p3, .Name v p4] [] p5) X.env = (do
      let ov ← eval (.Name "KeyrollError" p1) X.env
      standAt p2.atName
      let (f, first) ← holding [ov] (getMethod ov "__init__" pl)
      callWith p5 f first (backTo p5 (starEach [.Name "self" p3, .Name v p4] X.env)) (backToKw p5 (keywordEach [] X.env))))
    (hs : swapsWith (.Call (.Attribute (.Name "KeyrollError" p1) "__init__" p2) [.Name "self" p3, .Name v p4] [] p5) none p6.line X.env = pure false) (hs2 : swapsWith (.Name v p9) (some (.Attribute (.Name "self" p7) f p8)) p10.line X.env = pure false) (hk : Gl X "KeyrollError") :
    ∃ z : V → Option V, (∀ y, z y ≠ none) ∧ PSs X [.Expr (.Call (.Attribute (.Name "KeyrollError" p1) "__init__" p2) [.Name "self" p3, .Name v p4] [] p5) p6, .Assign [.Attribute (.Name "self" p7) f p8] (.Name v p9) p10]
      (tSeq (tDrop (tVeI X.K (fun σ H Q => ∃ a y u, σ[0]? = some (some a) ∧ σ[1]? = some (some y) ∧ z y = some u ∧ Q [a, u] H))) (tOst X.K f (tVar 0) (tVar 1))) := by
  refine ⟨some, fun y => (fun h => nomatch h), ?_⟩
  have self : ∀ {p : Pos}, PE X (.Name "self" p) (tVar 0) := fun {p} => pe_var h0 v0 (by decide) (by decide)
  have arg : ∀ {p : Pos}, PE X (.Name v p) (tVar 1) := fun {p} => pe_var h1 v1 d1 d2
  refine pss_cons (ps_expr (PE.imp (pe_ownInit hk hm T0 (pa_cons self (pa_cons arg pa_nil)) (by decide) hc) fun σ H Q h => ?_) hs) (pss_one (ps_ost self arg hs2))
  obtain ⟨a, y, u, g1, g2, g3, g4⟩ := h
  cases g3
  exact ⟨a, g1, y, g2, g4⟩
theorem ini_str {m : Str} {j : Nat} (hm : X.mg "KeyrollError" = some (.ref (He.ga X.K "KeyrollError"))) (T0 : KeI X.K (He.ga X.K "KeyrollError")) (h0 : X.N[0]? = some ("self" : Str)) (h1 : X.N[1]? = some v) (v0 : Vis X.env.scope "self") (v1 : Vis X.env.scope v) (d1 : (v == ("__debug__" : Str)) = false) (d2 : (v == ("__classdict__" : Str)) = false)
    {pl : Sem Bool} (hc : eval (.Call (.Attribute (.Name "KeyrollError" p1) "__init__" p2) [.Name "self" p3, .Constant (.str m) j p4] [] p5) X.env = (do
      let ov ← eval (.Name "KeyrollError" p1) X.env
      standAt p2.atName
      let (f, first) ← holding [ov] (getMethod ov "__init__" pl)
      callWith p5 f first (backTo p5 (starEach [.Name "self" p3, .Constant (.str m) j p4] X.env)) (backToKw p5 (keywordEach [] X.env))))
    (hs : swapsWith (.Call (.Attribute (.Name "KeyrollError" p1) "__init__" p2) [.Name "self" p3, .Constant (.str m) j p4] [] p5) none p6.line X.env = pure false) (hs2 : swapsWith (.Name v p9) (some (.Attribute (.Name "self" p7) f p8)) p10.line X.env = pure false) (hk : Gl X "KeyrollError") :
    ∃ z : V → Option V, (∀ y, z y ≠ none) ∧ PSs X [.Expr (.Call (.Attribute (.Name "KeyrollError" p1) "__init__" p2) [.Name "self" p3, .Constant (.str m) j p4] [] p5) p6, .Assign [.Attribute (.Name "self" p7) f p8] (.Name v p9) p10]
      (tSeq (tDrop (tVeI X.K (fun σ H Q => ∃ a y u, σ[0]? = some (some a) ∧ σ[1]? = some (some y) ∧ z y = some u ∧ Q [a, u] H))) (tOst X.K f (tVar 0) (tVar 1))) := by
  refine ⟨fun _ => some (.str m), fun y => (fun h => nomatch h), ?_⟩
  have self : ∀ {p : Pos}, PE X (.Name "self" p) (tVar 0) := fun {p} => pe_var h0 v0 (by decide) (by decide)
  have arg : ∀ {p : Pos}, PE X (.Name v p) (tVar 1) := fun {p} => pe_var h1 v1 d1 d2
  refine pss_cons (ps_expr (PE.imp (pe_ownInit hk hm T0 (pa_cons self (pa_cons pe_str pa_nil)) (by decide) hc) fun σ H Q h => ?_) hs) (pss_one (ps_ost self arg hs2))
  obtain ⟨a, y, u, g1, g2, g3, g4⟩ := h
  cases g3
  exact ⟨a, g1, g4⟩
end
/-! ### a def that makes lambdas -/
theorem def_body {P : Program} {w : World} {K : PySem.W.Frag} {mg : Str → Option Value} {base : Heap} {C : Addr} {qual : Str} {body : List Stmt} {scope : Scope} {f : Addr} {cdv : Value} {N : List Str} {n : Nat} {den : DS} {A : Around} {outer : List Env} {s : Shared} {H : Hp} {E : XK} {vs : List V} {Q : VK}
    (hb : ESs (cxd P w K mg base N qual scope f cdv A outer s H E) C E body den) (h : spF K C n (dDef N.length den) vs H Q E) : ∃ t, PSs (cxd P w K mg base N qual scope f cdv A outer s H E) body t ∧ t { nx := fun _ H' => Q .non H', rt := Q } (L2.start N vs) H := by
  refine ⟨_, hb, ?_⟩
  obtain ⟨hl, F0, B0, o0, ds, e0, s0, i0, c0⟩ := h
  obtain ⟨n0, w0⟩ := start_env (H := H) (N := N) i0
  refine ⟨F0, B0, _, o0, e0, s0, n0, ?_⟩
  have down : ∀ {F' H' : Hp} {B' : List Addr}, StepS (OwnOf (L2.start N vs) (ds.map EV.d ++ List.replicate (N.length - ds.length) EV.no)) F0 H B0 F' H' B' → Step F0 H B0 F' H' B' := fun st =>
    ⟨st.ff, st.fh, st.bb, fun a u q n => st.kp a u q n (w0 a), st.th, fun a q n => by rcases st.nw a q n with z | z | z; exact .inl z; exact .inr z; exact (w0 a z).elim, fun a q => by rcases st.bn a q with z | z | z; exact .inl z; exact .inr z; exact (w0 a z).elim⟩
  unfold dDef at c0
  cases q : den (ds.map EV.d ++ List.replicate (N.length - ds.length) EV.no) o0 with
  | nx ρ o => rw [q] at c0; exact fun F' H' B' σ' st ss _ _ => c0 F' H' B' .non (down st) ss .non
  | rt d o => rw [q] at c0; exact fun F' H' B' v st ss i => c0 F' H' B' v (down st) ss i
  | exc x o => rw [q] at c0; exact fun F' H' B' cl d st ss xa => c0 F' H' B' cl d (down st) ss xa
  | bk ρ o => rw [q] at c0; exact c0.elim
  | ct ρ o => rw [q] at c0; exact c0.elim
  | bad => rw [q] at c0; exact c0.elim
theorem fn_okT {P : Program} {w : World} {K : PySem.W.Frag} {mg : Str → Option Value} {base : Heap} {C : Addr} {x qual : Str} {params : Arguments} {body : List Stmt} {scope : Scope} {f : Addr} {fd : FuncData} {N ps : List Str} {k : Nat} {den : DS} (F : FunD K x qual params body scope [] [] f fd) (S : FnScope N ps scope) (at_ : f = He.fAd K (x, none))
    (hbody : ∀ (A : Around) (outer : List Env) (s : Shared) (H : Hp) (E : XK), Room k (A.deeper (PyProof.Rows.envOfC qual scope s.heap.objs.size f (.ref (He.codeOf K (x, none))))) →
      Passes (L2.CX P w) (cxd P w K mg base N qual scope f (.ref (He.codeOf K (x, none))) A outer s H E) E → PassesOwn (model P w) (cxd P w K mg base N qual scope f (.ref (He.codeOf K (x, none))) A outer s H E).A (cxd P w K mg base N qual scope f (.ref (He.codeOf K (x, none))) A outer s H E).env (cxd P w K mg base N qual scope f (.ref (He.codeOf K (x, none))) A outer s H E).xe →
      Takes (cxd P w K mg base N qual scope f (.ref (He.codeOf K (x, none))) A outer s H E) (fun cls d _ H => E cls d H) → ESs (cxd P w K mg base N qual scope f (.ref (He.codeOf K (x, none))) A outer s H E) C E body den) :
    FnOk P w K mg base (L2.CX P w) (k + 1) f fd ps (spF K C ps.length (dDef N.length den)) := by
  have code : ∀ cdv : Value, (∃ (oc : Value) (od : Option Addr) (dV kV doc pm : Value) (an : Option Addr) (ct : Value) (osl : Array (Option Value)), K.lookup f = some ⟨oc, od, .func (PySem.W.fnOf x qual params body scope dV kV doc pm an cdv ct), osl⟩ ∧ PySem.W.codeIn K cdv qual = true) → cdv = .ref (He.codeOf K (x, none)) := by
    rintro cdv ⟨oc, od, dV, kV, doc, pm, an, ct, osl, lk, hcd⟩
    obtain ⟨c, rfl⟩ := He.codeIn_ref hcd
    rw [at_] at lk
    rw [He.codeOf_eq lk rfl]
  obtain ⟨oc, od, dV, kV, doc, pm, an, cdv, ct, osl, rfl, lk, hcd, _, _⟩ := F.ex
  obtain rfl := code cdv ⟨oc, od, dV, kV, doc, pm, an, ct, osl, lk, hcd⟩
  refine fn_of lk hcd S (fun vs H Q E h => h.1) fun A outer s H vs Q E hr h => ?_
  have tk : Takes (cxd P w K mg base N qual scope f (.ref (He.codeOf K (x, none))) A outer s H E) (fun cls d _ H => E cls d H) := takes_of rfl rfl rfl rfl
  exact def_body (hbody A outer s H E hr (passes_call tk fun _ _ _ _ z => z) (passes_of rfl) tk) h
/-- what leaves a lambda's body -/
theorem lam_takes {X : Cx} {A : Around} {outer : List Env} {s : Shared} {H : Hp} {E : XK} {scope : Scope} {f c' : Addr} : Takes (lamCx X A outer s H E scope f c') (fun cls d _ H => E cls d H) := takes_of rfl rfl rfl rfl
theorem lam_passes {X : Cx} {A : Around} {outer : List Env} {s : Shared} {H : Hp} {E : XK} {scope : Scope} {f c' : Addr} : Passes (L2.CX X.prog X.w) (lamCx X A outer s H E scope f c') E := passes_call lam_takes fun _ _ _ _ z => z
end KR
set_option Elab.async false
set_option linter.all false
set_option maxRecDepth 100000
set_option maxHeartbeats 2000000
namespace KR
open PySem L2
/-! ### loops and comprehensions, by the items -/
def loopL (p : Pat) (b : DS) : List D → DS
  | [], ρ, o => .nx ρ o
  | x :: r, ρ, o => match p.f x ρ with
    | none => .bad
    | some ρ1 => match b ρ1 o with
      | .nx ρ2 o2 => loopL p b r ρ2 o2
      | .ct ρ2 o2 => loopL p b r ρ2 o2
      | .bk ρ2 o2 => .nx ρ2 o2
      | z => z
def loopCL (p : Pat) (tt : DB) (te : DE) (ρ : Rho) : List D → Om → Res (List D)
  | [], o => .ok [] o
  | x :: r, o => match p.f x ρ with
    | none => .bad
    | some ρ1 => match tt ρ1 o with
      | .ok true o1 => match te ρ1 o1 with
        | .ok y o2 => (match loopCL p tt te ρ r o2 with
          | .ok r o3 => .ok (y :: r) o3
          | _ => .bad)
        | _ => .bad
      | .ok false o1 => loopCL p tt te ρ r o1
      | _ => .bad
/-- what is walked tells these items, whatever the store -/
def SrcL (src : Src) (xs : List D) : Prop := ∀ o i, nxt o src i = some (xs[i]?)
theorem loopF_items {src : Src} {xs : List D} (h : SrcL src xs) {p : Pat} {b : DS} : ∀ (k i : Nat) (ρ : Rho) (o : Om), k + i = xs.length → loopF src p b (k + 1) i ρ o = loopL p b (xs.drop i) ρ o
  | 0, i, ρ, o, e => by
    have e' : xs.length ≤ i := by omega
    unfold loopF
    rw [h o i, List.getElem?_eq_none e', List.drop_eq_nil_of_le e']
    rfl
  | k + 1, i, ρ, o, e => by
    have l : i < xs.length := by omega
    unfold loopF
    rw [h o i, List.getElem?_eq_getElem l, List.drop_eq_getElem_cons l]
    unfold loopL
    simp only
    cases p.f xs[i] ρ with
    | none => rfl
    | some ρ1 =>
      simp only
      cases b ρ1 o with
      | nx ρ2 o2 => exact loopF_items h k (i + 1) ρ2 o2 (by omega)
      | ct ρ2 o2 => exact loopF_items h k (i + 1) ρ2 o2 (by omega)
      | _ => rfl
theorem loopC_items {src : Src} {xs : List D} (h : SrcL src xs) (hl : xs.length ≤ 100000) {p : Pat} {tt : DB} {te : DE} {ρ : Rho} : ∀ (k i : Nat) (o : Om), k + i = xs.length → loopC src p tt te ρ (k + 1) i o = loopCL p tt te ρ (xs.drop i) o
  | 0, i, o, e => by
    have e' : xs.length ≤ i := by omega
    unfold loopC
    rw [h o i, List.getElem?_eq_none e', List.drop_eq_nil_of_le e']
    rfl
  | k + 1, i, o, e => by
    have l : i < xs.length := by omega
    have l2 : i < 100000 := by omega
    unfold loopC
    rw [h o i, List.getElem?_eq_getElem l, List.drop_eq_getElem_cons l]
    unfold loopCL
    simp only
    cases p.f xs[i] ρ with
    | none => rfl
    | some ρ1 =>
      simp only
      cases tt ρ1 o with
      | ok t o1 =>
        cases t with
        | true =>
          simp only
          cases te ρ1 o1 with
          | ok y o2 =>
            simp only [if_pos l2]
            rw [loopC_items h hl k (i + 1) o2 (by omega)]
            all_goals (cases loopCL p tt te ρ (xs.drop (i + 1)) o2 <;> rfl)
          | _ => rfl
        | false => exact loopC_items h hl k (i + 1) o1 (by omega)
      | _ => rfl
theorem srcL_lst (xs : List D) : SrcL (.seq (.lst xs)) xs := fun _ _ => rfl
theorem srcL_tup (xs : List D) : SrcL (.seq (.tup xs)) xs := fun _ _ => rfl
theorem srcL_scr (ns : List Int) : SrcL (.seq (.scr ns)) (ns.map .int) := fun _ _ => rfl
def rngL (lo : Int) (n : Nat) : List D := (List.range n).map fun i => .int (lo + (i : Nat))
theorem rngL_length (lo : Int) (n : Nat) : (rngL lo n).length = n := by simp [rngL]
theorem srcL_rng (lo : Int) (n : Nat) : SrcL (.rng lo n) (rngL lo n) := fun o i => by
  show some (if i < n then some (D.int (lo + i)) else none) = some ((rngL lo n)[i]?)
  unfold rngL
  rw [List.getElem?_map]
  by_cases h : i < n
  · rw [if_pos h, List.getElem?_range h]; rfl
  · rw [if_neg h, List.getElem?_eq_none (by simp; omega)]; rfl
theorem srcL_rev (xs : List D) : SrcL (.rev (.lst xs) xs.length) xs.reverse := fun o i => by
  show (lv o (.lst xs)).bind (fun ys => if ys.length = xs.length then some (if i < xs.length then ys[xs.length - 1 - i]? else none) else none) = some (xs.reverse[i]?)
  show (if xs.length = xs.length then some (if i < xs.length then xs[xs.length - 1 - i]? else none) else none) = some (xs.reverse[i]?)
  rw [if_pos rfl]
  by_cases h : i < xs.length
  · rw [if_pos h, List.getElem?_reverse h]
  · rw [if_neg h, List.getElem?_eq_none (by simp; omega)]
/-! ### evaluation, step by step -/
section
variable (ρ : Rho) (o : Om) (f g h : DE) (fa : DA) (i j n : Nat) (s t : DS) (b c : DB) (p : Pat)
@[simp] theorem ev_C (x : D) : dC x ρ o = .ok x o := rfl
@[simp] theorem ev_Var : dVar i ρ o = match ρ[i]? with
  | some (.d x) => .ok x o
  | _ => .bad := rfl
@[simp] theorem ev_2 (op : Om → D → D → Option D) : d2 op f g ρ o = (f ρ o).bind fun x o1 => (g ρ o1).bind fun y o2 => .of o2 (op o2 x y) := rfl
@[simp] theorem ev_1 (op : Om → D → Option D) : d1 op f ρ o = (f ρ o).bind fun x o1 => .of o1 (op o1 x) := rfl
@[simp] theorem ev_N (op : Om → List D → Option D) : dN op fa ρ o = (fa ρ o).bind fun xs o1 => .of o1 (op o1 xs) := rfl
@[simp] theorem ev_Nil : dNil ρ o = .ok [] o := rfl
@[simp] theorem ev_Cons : dCons f fa ρ o = (f ρ o).bind fun x o1 => (fa ρ o1).bind fun xs o2 => .ok (x :: xs) o2 := rfl
@[simp] theorem ev_T : dT f ρ o = (f ρ o).bind fun x o1 => .of o1 (asB x) := rfl
@[simp] theorem ev_And : dAnd b c ρ o = (b ρ o).bind fun x o1 => if x = true then c ρ o1 else .ok false o1 := rfl
@[simp] theorem ev_Or : dOr b c ρ o = (b ρ o).bind fun x o1 => if x = true then .ok true o1 else c ρ o1 := rfl
@[simp] theorem ev_Not : dNot b ρ o = (b ρ o).bind fun x o1 => .ok (!x) o1 := rfl
@[simp] theorem ev_If : dIf b f g ρ o = (b ρ o).bind fun x o1 => if x = true then f ρ o1 else g ρ o1 := rfl
@[simp] theorem ev_AndV : dAndV f g ρ o = (dT f ρ o).bind fun x o1 => if x = true then g ρ o1 else .ok (.bl false) o1 := rfl
@[simp] theorem ev_OrV : dOrV f g ρ o = (dT f ρ o).bind fun x o1 => if x = true then .ok (.bl true) o1 else g ρ o1 := rfl
@[simp] theorem ev_NotV : dNotV f ρ o = (dT f ρ o).bind fun x o1 => .ok (.bl (!x)) o1 := rfl
@[simp] theorem ev_Chain (r r' : Om → D → D → Option D) : dChain r r' f g h ρ o = (f ρ o).bind fun x o1 => (g ρ o1).bind fun y o2 => (Res.of o2 ((r o2 x y).bind asB)).bind fun k o3 =>
  if k = true then (h ρ o3).bind fun z o4 => .of o4 (r' o4 y z) else .ok (.bl false) o3 := rfl
@[simp] theorem ev_oNo : doNo ρ o = .ok none o := rfl
@[simp] theorem ev_oSo : doSo f ρ o = (f ρ o).bind fun x o1 => .of o1 ((asI x).map some) := rfl
@[simp] theorem ev_Sl (op : Om → D → Option Int → Option Int → Option D) (l u : DO) : dSl op f l u ρ o = (f ρ o).bind fun x o1 => (l ρ o1).bind fun lo o2 => (u ρ o2).bind fun hi o3 => .of o3 (op o3 x lo hi) := rfl
@[simp] theorem ev_Call (φ : Phi) : dCall n φ fa ρ o = (fa ρ o).bind fun xs o1 => if xs.length = n then φ xs o1 else .bad := rfl
@[simp] theorem ev_Meth (m : Str) (φ : Phi) : dMeth m n φ g fa ρ o = (g ρ o).bind fun x o1 => match fv o1 x with
  | some (_, fs) => if fs.lookup m = none then (fa ρ o1).bind fun xs o2 => if xs.length + 1 = n then φ (x :: xs) o2 else .bad else .bad
  | none => .bad := rfl
@[simp] theorem ev_Fld (m : Str) : dFld m g ρ o = (g ρ o).bind fun x o1 => match fv o1 x with
  | some (_, fs) => .of o1 (fs.lookup m)
  | none => .bad := rfl
@[simp] theorem ev_Make (φ : Phi) : dMake n φ fa ρ o = (fa ρ o).bind fun xs o1 => if xs.length + 1 = n then (φ (.obj o1.length :: xs) (o1 ++ [.ins []])).bind fun z o2 => match z with
  | .non => .ok (.obj o1.length) o2
  | _ => .bad
  else .bad := rfl
@[simp] theorem ev_Yes : dYes ρ o = .ok true o := rfl
@[simp] theorem ev_Skip : dSkip ρ o = .nx ρ o := rfl
@[simp] theorem ev_Seq : dSeq s t ρ o = (s ρ o).then t := rfl
@[simp] theorem ev_Drop : dDrop f ρ o = (f ρ o).bindS fun _ o1 => .nx ρ o1 := rfl
@[simp] theorem ev_Ret : dRet f ρ o = (f ρ o).bindS fun x o1 => .rt x o1 := rfl
@[simp] theorem ev_IfS : dIfS b s t ρ o = (b ρ o).bindS fun x o1 => if x = true then s ρ o1 else t ρ o1 := rfl
@[simp] theorem ev_Asg : dAsg f p ρ o = (f ρ o).bindS fun x o1 => match p.f x ρ with
  | some ρ1 => .nx ρ1 o1
  | none => .bad := rfl
@[simp] theorem ev_Par : dPar i j f g ρ o = (f ρ o).bindS fun x o1 => (g ρ o1).bindS fun y o2 => .nx ((ρ.set i (.d x)).set j (.d y)) o2 := rfl
@[simp] theorem ev_Par3 (l : Nat) : dPar3 i j l f g h ρ o = (f ρ o).bindS fun x o1 => (g ρ o1).bindS fun y o2 => (h ρ o2).bindS fun z o3 => .nx (((ρ.set i (.d x)).set j (.d y)).set l (.d z)) o3 := rfl
@[simp] theorem ev_Own : dOwn i fa ρ o = (fa ρ o).bindS fun xs o1 => if xs.length ≤ 1000 then .nx (ρ.set i (.own xs)) o1 else .bad := rfl
@[simp] theorem ev_App : dApp i f ρ o = match ρ[i]? with
  | some (.own xs) => (f ρ o).bindS fun x o1 => if xs.length < 100000 then .nx (ρ.set i (.own (xs ++ [x]))) o1 else .bad
  | _ => .bad := rfl
@[simp] theorem ev_Ext : dExt i f ρ o = match ρ[i]? with
  | some (.own xs) => (f ρ o).bindS fun x o1 => match lv o1 x with
    | some ys => if xs.length + ys.length ≤ 1000000 then .nx (ρ.set i (.own (xs ++ ys))) o1 else .bad
    | none => .bad
  | _ => .bad := rfl
@[simp] theorem ev_Fz : dFz i ρ o = match ρ[i]? with
  | some (.own xs) => .nx (ρ.set i (.d (.lst xs))) o
  | _ => .bad := rfl
@[simp] theorem ev_Raise (x : Xc) : dRaise x ρ o = .exc x o := rfl
@[simp] theorem pf_Nm (x : D) : (pNm i).f x ρ = some (ρ.set i (.d x)) := rfl
@[simp] theorem pf_Tp (ps : Pats) (xs : List D) : (pTp ps).f (.tup xs) ρ = ps.f xs ρ := rfl
@[simp] theorem pf_Len (ps : Pats) (xs : List D) : (psLen n ps).f xs ρ = if xs.length = n then ps.f xs ρ else none := rfl
@[simp] theorem pf_Nil : psNil.f [] ρ = some ρ := rfl
@[simp] theorem pf_Cons (q : Pat) (ps : Pats) (x : D) (xs : List D) : (psCons q ps).f (x :: xs) ρ = (q.f x ρ).bind fun ρ1 => ps.f xs ρ1 := rfl
theorem for_items {fi : DI} {src : Src} {xs : List D} {o1 : Om} (e : fi ρ o = .ok src o1) (h : SrcL src xs) (hn : srcN o1 src = xs.length) : dFor fi p s ρ o = loopL p s xs ρ o1 := by
  unfold dFor
  rw [e]
  show loopF src p s (srcN o1 src + 1) 0 ρ o1 = _
  rw [hn, loopF_items h xs.length 0 ρ o1 rfl, List.drop_zero]
theorem lc_items {fi : DI} {src : Src} {xs : List D} {o1 : Om} {vs : List Nat} (e : fi ρ o = .ok src o1) (h : SrcL src xs) (hn : srcN o1 src = xs.length) (hl : xs.length ≤ 100000) : dLc0 fi p b f vs ρ o = loopCL p b f (wipeE ρ vs) xs o1 := by
  unfold dLc0
  rw [e]
  show loopC src p b f (wipeE ρ vs) (srcN o1 src + 1) 0 o1 = _
  rw [hn, loopC_items h hl xs.length 0 o1 rfl, List.drop_zero]
@[simp] theorem ev_Lc (fi : DI) (vs : List Nat) : dLc fi p b f vs ρ o = (dLc0 fi p b f vs ρ o).bind fun xs o1 => .ok (.lst xs) o1 := rfl
end
/-- a loop whose turns keep an invariant over typed items -/
theorem loopL_inv {α σ : Type} {p : Pat} {s : DS} {enc : α → D} {P : σ → Rho → Prop} {step : σ → α → σ} {o : Om} : ∀ (xs : List α), (∀ st x ρ, x ∈ xs → P st ρ → ∃ ρ1 ρ2, p.f (enc x) ρ = some ρ1 ∧ s ρ1 o = .nx ρ2 o ∧ P (step st x) ρ2) →
    ∀ st ρ, P st ρ → ∃ ρ', loopL p s (xs.map enc) ρ o = .nx ρ' o ∧ P (xs.foldl step st) ρ'
  | [], _, st, ρ, h => ⟨ρ, rfl, h⟩
  | x :: xs, hs, st, ρ, h => by
    obtain ⟨ρ1, ρ2, e1, e2, h2⟩ := hs st x ρ List.mem_cons_self h
    obtain ⟨ρ', e3, h3⟩ := loopL_inv xs (fun st y ρ hy => hs st y ρ (List.mem_cons_of_mem _ hy)) (step st x) ρ2 h2
    refine ⟨ρ', ?_, h3⟩
    rw [List.map_cons]
    unfold loopL
    rw [e1]
    simp only
    rw [e2]
    exact e3
/-- a comprehension that stores nothing -/
theorem loopCL_map {α β : Type} {p : Pat} {tt : DB} {te : DE} {ρ : Rho} {o : Om} {enc : α → D} {t : α → Bool} {g : α → β} {en2 : β → D} : ∀ (xs : List α), (∀ x, x ∈ xs → ∃ ρ1, p.f (enc x) ρ = some ρ1 ∧ tt ρ1 o = .ok (t x) o ∧ (t x = true → te ρ1 o = .ok (en2 (g x)) o)) →
    loopCL p tt te ρ (xs.map enc) o = .ok ((((xs.filter t).map g)).map en2) o
  | [], _ => rfl
  | x :: xs, hs => by
    obtain ⟨ρ1, e1, e2, e3⟩ := hs x List.mem_cons_self
    have ih := loopCL_map xs fun y hy => hs y (List.mem_cons_of_mem _ hy)
    rw [List.map_cons]
    unfold loopCL
    rw [e1]
    simp only
    rw [e2]
    cases q : t x with
    | true =>
      simp only
      rw [e3 q]
      simp only
      rw [ih, List.filter_cons, if_pos q]
      rfl
    | false =>
      simp only
      rw [ih, List.filter_cons, if_neg (by rw [q]; decide)]
end KR
set_option Elab.async false
set_option linter.all false
set_option maxRecDepth 100000
set_option maxHeartbeats 2000000
namespace KR
open PySem L2
/-! ### what a statement comes to -/
def W (N : Rho → Om → Prop) (T : D → Om → Prop) (X : Xc → Om → Prop) : RS → Prop
  | .nx ρ o => N ρ o
  | .rt d o => T d o
  | .exc x o => X x o
  | _ => False
section
variable {N : Rho → Om → Prop} {T : D → Om → Prop} {X : Xc → Om → Prop}
@[simp] theorem W_nx (ρ : Rho) (o : Om) : W N T X (.nx ρ o) = N ρ o := rfl
@[simp] theorem W_rt (d : D) (o : Om) : W N T X (.rt d o) = T d o := rfl
@[simp] theorem W_exc (d : Xc) (o : Om) : W N T X (.exc d o) = X d o := rfl
@[simp] theorem W_then (r : RS) (k : DS) : W N T X (r.then k) = W (fun ρ o => W N T X (k ρ o)) T X r := by cases r <;> rfl
theorem W_if (c : Prop) [Decidable c] (a b : RS) : W N T X (if c then a else b) = if c then W N T X a else W N T X b := by split <;> rfl
theorem W.imp {N' : Rho → Om → Prop} {T' : D → Om → Prop} {X' : Xc → Om → Prop} {r : RS} (h : W N T X r) (hn : ∀ ρ o, N ρ o → N' ρ o) (ht : ∀ d o, T d o → T' d o) (hx : ∀ x o, X x o → X' x o) : W N' T' X' r := by
  cases r with
  | nx ρ o => exact hn _ _ h
  | rt d o => exact ht _ _ h
  | exc d o => exact hx _ _ h
  | _ => exact h
/-- a loop, by what holds while these items are left -/
theorem W_loop {α : Type} {p : Pat} {s : DS} {enc : α → D} (I : List α → Rho → Om → Prop) : ∀ (xs : List α) (ρ : Rho) (o : Om), I xs ρ o →
    (∀ x r ρ o, I (x :: r) ρ o → ∃ ρ1, p.f (enc x) ρ = some ρ1 ∧ W (I r) T X (s ρ1 o)) → (∀ ρ o, I [] ρ o → N ρ o) → W N T X (loopL p s (xs.map enc) ρ o)
  | [], ρ, o, h, _, hd => hd ρ o h
  | x :: xs, ρ, o, h, ht, hd => by
    obtain ⟨ρ1, e1, h1⟩ := ht x xs ρ o h
    rw [List.map_cons]
    unfold loopL
    rw [e1]
    simp only
    cases q : s ρ1 o with
    | nx ρ2 o2 => rw [q] at h1; exact W_loop I xs ρ2 o2 h1 ht hd
    | rt d o2 => rw [q] at h1; exact h1
    | exc d o2 => rw [q] at h1; exact h1
    | bk ρ2 o2 => rw [q] at h1; exact h1.elim
    | ct ρ2 o2 => rw [q] at h1; exact h1.elim
    | bad => rw [q] at h1; exact h1.elim
/-- a loop over a range -/
theorem W_range {p : Pat} {s : DS} {lo : Int} (n : Nat) (I : Nat → Rho → Om → Prop) {ρ : Rho} {o : Om} (h : I 0 ρ o)
    (ht : ∀ i ρ o, i < n → I i ρ o → ∃ ρ1, p.f (.int (lo + (i : Nat))) ρ = some ρ1 ∧ W (I (i + 1)) T X (s ρ1 o)) (hd : ∀ ρ o, I n ρ o → N ρ o) : W N T X (loopL p s (rngL lo n) ρ o) := by
  unfold rngL
  have key : ∀ (m k : Nat) (ρ : Rho) (o : Om), k + m = n → I k ρ o → W N T X (loopL p s ((List.range' k m).map fun i => .int (lo + (i : Nat))) ρ o) := by
    intro m
    induction m with
    | zero => intro k ρ o e h; exact hd ρ o (by have e' : k = n := e; subst e'; exact h)
    | succ m ih =>
      intro k ρ o e h
      obtain ⟨ρ1, e1, h1⟩ := ht k ρ o (by omega) h
      rw [List.range'_succ, List.map_cons]
      unfold loopL
      rw [e1]
      simp only
      cases q : s ρ1 o with
      | nx ρ2 o2 => rw [q] at h1; exact ih (k + 1) ρ2 o2 (by omega) h1
      | rt d o2 => rw [q] at h1; exact h1
      | exc d o2 => rw [q] at h1; exact h1
      | bk ρ2 o2 => rw [q] at h1; exact h1.elim
      | ct ρ2 o2 => rw [q] at h1; exact h1.elim
      | bad => rw [q] at h1; exact h1.elim
  rw [List.range_eq_range']
  exact key n 0 ρ o (by omega) h
/-- a def's answer -/
theorem def_ok {n : Nat} {den : DS} {ds : List D} {o o' : Om} {v : D} (h : W (fun _ o1 => v = .non ∧ o1 = o') (fun d o1 => d = v ∧ o1 = o') (fun _ _ => False) (den (ds.map EV.d ++ List.replicate (n - ds.length) EV.no) o)) : dDef n den ds o = .ok v o' := by
  unfold dDef
  cases q : den (ds.map EV.d ++ List.replicate (n - ds.length) EV.no) o with
  | nx ρ2 o2 => rw [q] at h; obtain ⟨rfl, rfl⟩ := h; rfl
  | rt d o2 => rw [q] at h; obtain ⟨rfl, rfl⟩ := h; rfl
  | exc d o2 => rw [q] at h; exact h.elim
  | bk ρ2 o2 => rw [q] at h; exact h.elim
  | ct ρ2 o2 => rw [q] at h; exact h.elim
  | bad => rw [q] at h; exact h.elim
theorem def_exc {n : Nat} {den : DS} {ds : List D} {o o' : Om} {v : Xc} (h : W (fun _ o1 => False) (fun d o1 => False) (fun x o1 => x = v ∧ o1 = o') (den (ds.map EV.d ++ List.replicate (n - ds.length) EV.no) o)) : dDef n den ds o = .exc v o' := by
  unfold dDef
  cases q : den (ds.map EV.d ++ List.replicate (n - ds.length) EV.no) o with
  | nx ρ2 o2 => rw [q] at h; exact h.elim
  | rt d o2 => rw [q] at h; exact h.elim
  | exc d o2 => rw [q] at h; obtain ⟨rfl, rfl⟩ := h; rfl
  | bk ρ2 o2 => rw [q] at h; exact h.elim
  | ct ρ2 o2 => rw [q] at h; exact h.elim
  | bad => rw [q] at h; exact h.elim
end
end KR
set_option Elab.async false
set_option linter.all false
set_option maxRecDepth 100000
set_option maxHeartbeats 2000000
namespace KR
open PySem L2
/-! ### what an expression comes to -/
def V {α : Type} (Q : α → Om → Prop) (X : Xc → Om → Prop) : Res α → Prop
  | .ok a o => Q a o
  | .exc x o => X x o
  | .bad => False
section
variable {α β γ : Type} {Q Q' : α → Om → Prop} {X X' : Xc → Om → Prop} {N : Rho → Om → Prop} {T : D → Om → Prop}
@[simp] theorem V_ok (a : α) (o : Om) : V Q X (.ok a o) = Q a o := rfl
@[simp] theorem V_exc (x : Xc) (o : Om) : V Q X (.exc x o) = X x o := rfl
@[simp] theorem V_bad : V Q X .bad = False := rfl
@[simp] theorem V_bind (r : Res β) (k : β → Om → Res α) : V Q X (r.bind k) = V (fun x o => V Q X (k x o)) X r := by cases r <;> rfl
@[simp] theorem W_bindS (r : Res β) (k : β → Om → RS) : W N T X (r.bindS k) = V (fun x o => W N T X (k x o)) X r := by cases r <;> rfl
@[simp] theorem W_bad : W N T X .bad = False := rfl
theorem V.imp {r : Res α} (h : V Q X r) (hq : ∀ a o, Q a o → Q' a o) (hx : ∀ x o, X x o → X' x o) : V Q' X' r := by
  cases r with
  | ok a o => exact hq _ _ h
  | exc x o => exact hx _ _ h
  | bad => exact h
theorem V.of {r : Res α} (h : V Q (fun _ _ => False) r) (hq : ∀ a o, Q a o → Q' a o) : V Q' X' r := h.imp hq fun _ _ z => z.elim
theorem V_eq {r : Res α} {v : α} {o1 : Om} (h : V (fun d o => d = v ∧ o = o1) (fun _ _ => False) r) : r = .ok v o1 := by
  cases r with
  | ok a o => obtain ⟨rfl, rfl⟩ := h; rfl
  | exc x o => exact h.elim
  | bad => exact h.elim
theorem V_if (c : Prop) [Decidable c] (a b : Res α) : V Q X (if c then a else b) = if c then V Q X a else V Q X b := by split <;> rfl
theorem V_if' {c : Prop} [Decidable c] {a b : Res α} (h : c) (ha : V Q X a) : V Q X (if c then a else b) := by rw [if_pos h]; exact ha
/-- a def, by its body -/
theorem def_V {n : Nat} {den : DS} {ds : List D} {o : Om} {Q : D → Om → Prop} (h : W (fun _ o1 => Q .non o1) Q X (den (ds.map EV.d ++ List.replicate (n - ds.length) EV.no) o)) : V Q X (dDef n den ds o) := by
  unfold dDef
  cases q : den (ds.map EV.d ++ List.replicate (n - ds.length) EV.no) o with
  | nx ρ2 o2 => rw [q] at h; exact h
  | rt d o2 => rw [q] at h; exact h
  | exc d o2 => rw [q] at h; exact h
  | bk ρ2 o2 => rw [q] at h; exact h.elim
  | ct ρ2 o2 => rw [q] at h; exact h.elim
  | bad => rw [q] at h; exact h.elim
/-! loops -/
def loopS (p : Pat) (s : DS) (src : Src) (ρ : Rho) (o : Om) : RS := loopF src p s (srcN o src + 1) 0 ρ o
@[simp] theorem W_For (fi : DI) (p : Pat) (s : DS) (ρ : Rho) (o : Om) : W N T X (dFor fi p s ρ o) = V (fun src o1 => W N T X (loopS p s src ρ o1)) X (fi ρ o) := by unfold dFor; rw [W_bindS]; rfl
theorem loopS_items {src : Src} {xs : List D} (h : SrcL src xs) {p : Pat} {s : DS} {ρ : Rho} {o : Om} (hn : srcN o src = xs.length) : loopS p s src ρ o = loopL p s xs ρ o := by
  unfold loopS
  rw [hn, loopF_items h xs.length 0 ρ o rfl, List.drop_zero]
@[simp] theorem ev_iSeq (f : DE) (ρ : Rho) (o : Om) : iSeq' f ρ o = (f ρ o).bind fun x o1 => if (qv o1 x).isSome = true then .ok (.seq x) o1 else .bad := rfl
@[simp] theorem ev_iR1 (f : DE) (ρ : Rho) (o : Om) : iR1 f ρ o = (f ρ o).bind fun x o1 => match x with
  | .int n => if -100000 ≤ n ∧ n ≤ 100000 then .ok (.rng 0 n.toNat) o1 else .bad
  | _ => .bad := rfl
@[simp] theorem ev_iR2 (f g : DE) (ρ : Rho) (o : Om) : iR2 f g ρ o = (f ρ o).bind fun x o1 => (g ρ o1).bind fun y o2 => iR2k x y o2 := rfl
@[simp] theorem ev_iRv (f : DE) (ρ : Rho) (o : Om) : iRv f ρ o = (f ρ o).bind fun x o1 => match lv o1 x with
  | some xs => .ok (.rev x xs.length) o1
  | none => .bad := rfl
theorem W_lst {p : Pat} {s : DS} {ρ : Rho} {o : Om} (enc : γ → D) (xs : List γ) (I : List γ → Rho → Om → Prop) (h0 : I xs ρ o)
    (ht : ∀ x r ρ o, I (x :: r) ρ o → ∃ ρ1, p.f (enc x) ρ = some ρ1 ∧ W (I r) T X (s ρ1 o)) (hd : ∀ ρ o, I [] ρ o → N ρ o) : W N T X (loopS p s (.seq (.lst (xs.map enc))) ρ o) := by
  rw [loopS_items (srcL_lst (xs.map enc)) (by simp [srcN, qv])]
  exact W_loop I xs ρ o h0 ht hd
theorem W_tup {p : Pat} {s : DS} {ρ : Rho} {o : Om} (enc : γ → D) (xs : List γ) (I : List γ → Rho → Om → Prop) (h0 : I xs ρ o)
    (ht : ∀ x r ρ o, I (x :: r) ρ o → ∃ ρ1, p.f (enc x) ρ = some ρ1 ∧ W (I r) T X (s ρ1 o)) (hd : ∀ ρ o, I [] ρ o → N ρ o) : W N T X (loopS p s (.seq (.tup (xs.map enc))) ρ o) := by
  rw [loopS_items (srcL_tup (xs.map enc)) (by simp [srcN, qv])]
  exact W_loop I xs ρ o h0 ht hd
theorem W_scr {p : Pat} {s : DS} {ρ : Rho} {o : Om} (ns : List Int) (I : List Int → Rho → Om → Prop) (h0 : I ns ρ o)
    (ht : ∀ x r ρ o, I (x :: r) ρ o → ∃ ρ1, p.f (.int x) ρ = some ρ1 ∧ W (I r) T X (s ρ1 o)) (hd : ∀ ρ o, I [] ρ o → N ρ o) : W N T X (loopS p s (.seq (.scr ns)) ρ o) := by
  rw [loopS_items (srcL_scr ns) (by simp [srcN, qv])]
  exact W_loop I ns ρ o h0 ht hd
theorem W_rev {p : Pat} {s : DS} {ρ : Rho} {o : Om} (enc : γ → D) (xs : List γ) (n : Nat) (hn : n = xs.length) (I : List γ → Rho → Om → Prop) (h0 : I xs.reverse ρ o)
    (ht : ∀ x r ρ o, I (x :: r) ρ o → ∃ ρ1, p.f (enc x) ρ = some ρ1 ∧ W (I r) T X (s ρ1 o)) (hd : ∀ ρ o, I [] ρ o → N ρ o) : W N T X (loopS p s (.rev (.lst (xs.map enc)) n) ρ o) := by
  subst hn
  have h := srcL_rev (xs.map enc)
  rw [List.length_map, ← List.map_reverse] at h
  rw [loopS_items h (by simp [srcN])]
  exact W_loop I xs.reverse ρ o h0 ht hd
theorem W_rng {p : Pat} {s : DS} {lo : Int} (n : Nat) (I : Nat → Rho → Om → Prop) {ρ : Rho} {o : Om} (h : I 0 ρ o)
    (ht : ∀ i ρ o, i < n → I i ρ o → ∃ ρ1, p.f (.int (lo + (i : Nat))) ρ = some ρ1 ∧ W (I (i + 1)) T X (s ρ1 o)) (hd : ∀ ρ o, I n ρ o → N ρ o) : W N T X (loopS p s (.rng lo n) ρ o) := by
  rw [loopS_items (srcL_rng lo n) (by simp [srcN, rngL])]
  exact W_range n I h ht hd
theorem W_rng0 {p : Pat} {s : DS} (n : Nat) (I : Nat → Rho → Om → Prop) {ρ : Rho} {o : Om} (h : I 0 ρ o)
    (ht : ∀ (i : Nat) ρ o, i < n → I i ρ o → ∃ ρ1, p.f (.int (i : Int)) ρ = some ρ1 ∧ W (I (i + 1)) T X (s ρ1 o)) (hd : ∀ ρ o, I n ρ o → N ρ o) : W N T X (loopS p s (.rng 0 n) ρ o) :=
  W_rng n I h (fun i ρ o hi hI => by obtain ⟨ρ1, h1, h2⟩ := ht i ρ o hi hI; exact ⟨ρ1, by rw [Int.zero_add]; exact h1, h2⟩) hd
/-! comprehensions -/
def loopD (p : Pat) (tt : DB) (te : DE) (src : Src) (ρ : Rho) (o : Om) : Res (List D) := loopC src p tt te ρ (srcN o src + 1) 0 o
@[simp] theorem ev_Lc0 (fi : DI) (p : Pat) (tt : DB) (te : DE) (vs : List Nat) (ρ : Rho) (o : Om) : dLc0 fi p tt te vs ρ o = (fi ρ o).bind fun src o1 => loopD p tt te src (wipeE ρ vs) o1 := rfl
@[simp] theorem ev_LcH (fi : DI) (p : Pat) (tt : DB) (te : DE) (vs : List Nat) (ρ : Rho) (o : Om) : dLcH fi p tt te vs ρ o = (dLc0 fi p tt te vs ρ o).bind fun xs o1 => .ok (.obj o1.length) (o1 ++ [.ml xs]) := rfl
theorem loopD_items {src : Src} {xs : List D} (h : SrcL src xs) {p : Pat} {tt : DB} {te : DE} {ρ : Rho} {o : Om} (hn : srcN o src = xs.length) (hl : xs.length ≤ 100000) : loopD p tt te src ρ o = loopCL p tt te ρ xs o := by
  unfold loopD
  rw [hn, loopC_items h hl xs.length 0 o rfl, List.drop_zero]
theorem V_loopCL {p : Pat} {tt : DB} {te : DE} {ρ : Rho} {enc : γ → D} {Q : List D → Om → Prop} (I : List γ → List D → Om → Prop) : ∀ (xs : List γ) (acc : List D) (o : Om), I xs acc o →
    (∀ x r acc o, I (x :: r) acc o → ∃ ρ1, p.f (enc x) ρ = some ρ1 ∧ V (fun t o1 => if t = true then V (fun y o2 => I r (acc ++ [y]) o2) (fun _ _ => False) (te ρ1 o1) else I r acc o1) (fun _ _ => False) (tt ρ1 o)) →
    (∀ acc o, I [] acc o → Q acc o) → V (fun ys o => Q (acc ++ ys) o) X (loopCL p tt te ρ (xs.map enc) o)
  | [], acc, o, h, _, hd => by
    show Q (acc ++ []) o
    rw [List.append_nil]
    exact hd acc o h
  | x :: xs, acc, o, h, ht, hd => by
    obtain ⟨ρ1, e1, h1⟩ := ht x xs acc o h
    rw [List.map_cons]
    unfold loopCL
    rw [e1]
    simp only
    cases q : tt ρ1 o with
    | ok t o1 =>
      rw [q] at h1
      cases t with
      | true =>
        have h1' : V (fun y o2 => I xs (acc ++ [y]) o2) (fun _ _ => False) (te ρ1 o1) := h1
        simp only
        cases q2 : te ρ1 o1 with
        | ok y o2 =>
          rw [q2] at h1'
          have ih := V_loopCL I xs (acc ++ [y]) o2 h1' ht hd
          simp only
          cases q3 : loopCL p tt te ρ (xs.map enc) o2 with
          | ok r o3 =>
            rw [q3] at ih
            show Q (acc ++ y :: r) o3
            have ih' : Q ((acc ++ [y]) ++ r) o3 := ih
            rw [List.append_assoc] at ih'
            exact ih'
          | exc x o3 => rw [q3] at ih; exact (loopCL_noexc xs o2 x o3 q3).elim
          | bad => rw [q3] at ih; exact ih.elim
        | exc x o2 => rw [q2] at h1'; exact h1'.elim
        | bad => rw [q2] at h1'; exact h1'.elim
      | false =>
        have h1' : I xs acc o1 := h1
        exact V_loopCL I xs acc o1 h1' ht hd
    | exc x o1 => rw [q] at h1; exact h1.elim
    | bad => rw [q] at h1; exact h1.elim
where
  loopCL_noexc : ∀ (xs : List γ) (o : Om) (x : Xc) (o' : Om), loopCL p tt te ρ (xs.map enc) o ≠ .exc x o'
  | [], o, x, o', e => by cases e
  | y :: xs, o, x, o', e => by
    rw [List.map_cons] at e
    unfold loopCL at e
    split at e
    · cases e
    · split at e
      · split at e
        · split at e
          · cases e
          · cases e
        · cases e
      · exact loopCL_noexc xs _ x o' e
      · cases e
theorem V_clst {p : Pat} {tt : DB} {te : DE} {ρ : Rho} {o : Om} {Q : List D → Om → Prop} (enc : γ → D) (xs : List γ) (hl : xs.length ≤ 100000) (I : List γ → List D → Om → Prop) (h0 : I xs [] o)
    (ht : ∀ x r acc o, I (x :: r) acc o → ∃ ρ1, p.f (enc x) ρ = some ρ1 ∧ V (fun t o1 => if t = true then V (fun y o2 => I r (acc ++ [y]) o2) (fun _ _ => False) (te ρ1 o1) else I r acc o1) (fun _ _ => False) (tt ρ1 o))
    (hd : ∀ acc o, I [] acc o → Q acc o) : V Q X (loopD p tt te (.seq (.lst (xs.map enc))) ρ o) := by
  rw [loopD_items (srcL_lst (xs.map enc)) (by simp [srcN, qv]) (by simpa using hl)]
  exact V_loopCL I xs [] o h0 ht hd
theorem V_crng {p : Pat} {tt : DB} {te : DE} {ρ : Rho} {o : Om} {Q : List D → Om → Prop} (n : Nat) (hl : n ≤ 100000) (I : List Nat → List D → Om → Prop) (h0 : I (List.range n) [] o)
    (ht : ∀ (x : Nat) r acc o, I (x :: r) acc o → ∃ ρ1, p.f (.int (x : Int)) ρ = some ρ1 ∧ V (fun t o1 => if t = true then V (fun y o2 => I r (acc ++ [y]) o2) (fun _ _ => False) (te ρ1 o1) else I r acc o1) (fun _ _ => False) (tt ρ1 o))
    (hd : ∀ acc o, I [] acc o → Q acc o) : V Q X (loopD p tt te (.rng 0 n) ρ o) := by
  have e : rngL 0 n = (List.range n).map fun i => D.int ((i : Nat) : Int) := by unfold rngL; exact List.map_congr_left fun i _ => by rw [Int.zero_add]
  rw [loopD_items (srcL_rng 0 n) (by simp [srcN, rngL]) (by simpa [rngL] using hl), e]
  exact V_loopCL I (List.range n) [] o h0 ht hd
/-! those that store nothing -/
theorem lc_l {p : Pat} {tt : DB} {te : DE} {ρ : Rho} {o : Om} (enc : γ → D) (xs : List γ) (hl : xs.length ≤ 100000) (t : γ → Bool) (g : γ → β) (en2 : β → D)
    (hs : ∀ x, x ∈ xs → ∃ ρ1, p.f (enc x) ρ = some ρ1 ∧ tt ρ1 o = .ok (t x) o ∧ (t x = true → te ρ1 o = .ok (en2 (g x)) o)) : loopD p tt te (.seq (.lst (xs.map enc))) ρ o = .ok (((xs.filter t).map g).map en2) o := by
  rw [loopD_items (srcL_lst (xs.map enc)) (by simp [srcN, qv]) (by simpa using hl)]
  exact loopCL_map xs hs
theorem lc_t {p : Pat} {tt : DB} {te : DE} {ρ : Rho} {o : Om} (enc : γ → D) (xs : List γ) (hl : xs.length ≤ 100000) (t : γ → Bool) (g : γ → β) (en2 : β → D)
    (hs : ∀ x, x ∈ xs → ∃ ρ1, p.f (enc x) ρ = some ρ1 ∧ tt ρ1 o = .ok (t x) o ∧ (t x = true → te ρ1 o = .ok (en2 (g x)) o)) : loopD p tt te (.seq (.tup (xs.map enc))) ρ o = .ok (((xs.filter t).map g).map en2) o := by
  rw [loopD_items (srcL_tup (xs.map enc)) (by simp [srcN, qv]) (by simpa using hl)]
  exact loopCL_map xs hs
theorem lc_r {p : Pat} {tt : DB} {te : DE} {ρ : Rho} {o : Om} (n : Nat) (hl : n ≤ 100000) (t : Nat → Bool) (g : Nat → β) (en2 : β → D)
    (hs : ∀ x, x < n → ∃ ρ1, p.f (.int (x : Int)) ρ = some ρ1 ∧ tt ρ1 o = .ok (t x) o ∧ (t x = true → te ρ1 o = .ok (en2 (g x)) o)) : loopD p tt te (.rng 0 n) ρ o = .ok ((((List.range n).filter t).map g).map en2) o := by
  have e : rngL 0 n = (List.range n).map fun i => D.int ((i : Nat) : Int) := by unfold rngL; exact List.map_congr_left fun i _ => by rw [Int.zero_add]
  rw [loopD_items (srcL_rng 0 n) (by simp [srcN, rngL]) (by simpa [rngL] using hl), e]
  exact loopCL_map (List.range n) fun x hx => hs x (List.mem_range.mp hx)
end
@[simp] theorem filt_true {α : Type} (l : List α) : (l.filter fun _ => true) = l := by induction l <;> simp_all
/-! ### operations, simply -/
@[simp] theorem asB_bl (b : Bool) : asB (.bl b) = some b := rfl
@[simp] theorem asI_int (b : Int) : asI (.int b) = some b := rfl
@[simp] theorem qv_lst (o : Om) (xs : List D) : qv o (.lst xs) = some xs := rfl
@[simp] theorem qv_tup (o : Om) (xs : List D) : qv o (.tup xs) = some xs := rfl
@[simp] theorem qv_scr (o : Om) (xs : List Int) : qv o (.scr xs) = some (xs.map .int) := rfl
@[simp] theorem lv_lst (o : Om) (xs : List D) : lv o (.lst xs) = some xs := rfl
theorem qv_obj {o : Om} {n : Nat} {xs : List D} (h : o[n]? = some (.ml xs)) : qv o (.obj n) = some xs := by simp [qv, h]
theorem lv_obj {o : Om} {n : Nat} {xs : List D} (h : o[n]? = some (.ml xs)) : lv o (.obj n) = some xs := by simp [lv, h]
theorem hv_obj {o : Om} {n : Nat} {xs : List D} (h : o[n]? = some (.ml xs)) : hv o (.obj n) = some (n, xs) := by simp [hv, h]
theorem fv_obj {o : Om} {n : Nat} {fs : List (Str × D)} (h : o[n]? = some (.ins fs)) : fv o (.obj n) = some (n, fs) := by simp [fv, h]
@[simp] theorem op_add (o : Om) (i j : Int) : opAdd o (.int i) (.int j) = some (.int (i + j)) := rfl
@[simp] theorem op_sub (o : Om) (i j : Int) : opSub o (.int i) (.int j) = some (.int (i - j)) := rfl
@[simp] theorem op_lt (o : Om) (i j : Int) : opLt o (.int i) (.int j) = some (.bl (decide (i < j))) := rfl
@[simp] theorem op_le (o : Om) (i j : Int) : opLe o (.int i) (.int j) = some (.bl (decide (i ≤ j))) := rfl
@[simp] theorem op_gt (o : Om) (i j : Int) : opGt o (.int i) (.int j) = some (.bl (decide (j < i))) := rfl
@[simp] theorem op_ge (o : Om) (i j : Int) : opGe o (.int i) (.int j) = some (.bl (decide (j ≤ i))) := rfl
@[simp] theorem op_neg (o : Om) (i : Int) : opNeg o (.int i) = some (.int (-i)) := rfl
@[simp] theorem op_is (o : Om) (x : D) : opIs o x .non = some (.bl (isN x)) := rfl
@[simp] theorem op_isNot (o : Om) (x : D) : opIsNot o x .non = some (.bl (!isN x)) := rfl
@[simp] theorem op_max (o : Om) (i j : Int) : opMax o [.int i, .int j] = some (.int (max i j)) := rfl
@[simp] theorem op_min (o : Om) (i j : Int) : opMin o [.int i, .int j] = some (.int (min i j)) := rfl
@[simp] theorem op_len (o : Om) (x : D) : opLen o [x] = (qv o x).map fun ys => .int ys.length := rfl
@[simp] theorem op_intb (o : Om) (b : Bool) : opInt o [.bl b] = some (.int (if b then 1 else 0)) := rfl
@[simp] theorem op_inti (o : Om) (b : Int) : opInt o [.int b] = some (.int b) := rfl
theorem op_lstT (o : Om) (xs : List D) (h : xs.length ≤ 100000) : opLst o xs = some (.lst xs) := if_pos h
theorem op_tupT (o : Om) (xs : List D) (h : xs.length ≤ 100000) : opTup o xs = some (.tup xs) := if_pos h
@[simp] theorem op_lst0 (o : Om) : opLst o [] = some (.lst []) := rfl
@[simp] theorem op_lst1 (o : Om) (a : D) : opLst o [a] = some (.lst [a]) := rfl
@[simp] theorem op_lst2 (o : Om) (a b : D) : opLst o [a, b] = some (.lst [a, b]) := rfl
@[simp] theorem op_lst3 (o : Om) (a b c : D) : opLst o [a, b, c] = some (.lst [a, b, c]) := rfl
@[simp] theorem op_lst4 (o : Om) (a b c d : D) : opLst o [a, b, c, d] = some (.lst [a, b, c, d]) := rfl
@[simp] theorem op_tup0 (o : Om) : opTup o [] = some (.tup []) := rfl
@[simp] theorem op_tup1 (o : Om) (a : D) : opTup o [a] = some (.tup [a]) := rfl
@[simp] theorem op_tup2 (o : Om) (a b : D) : opTup o [a, b] = some (.tup [a, b]) := rfl
@[simp] theorem op_tup3 (o : Om) (a b c : D) : opTup o [a, b, c] = some (.tup [a, b, c]) := rfl
@[simp] theorem op_tup4 (o : Om) (a b c d : D) : opTup o [a, b, c, d] = some (.tup [a, b, c, d]) := rfl
theorem atI_nat {α : Type} (xs : List α) (i : Nat) : L2.atI xs (i : Int) = xs[i]? := by
  unfold L2.atI L2.ixN
  rw [if_pos (Int.natCast_nonneg i)]
  by_cases h : i < xs.length
  · rw [if_pos (by omega)]; rfl
  · rw [if_neg (by omega), List.getElem?_eq_none (by omega)]; rfl
theorem atI_pos {α : Type} (xs : List α) {i : Int} (h : 0 ≤ i) : L2.atI xs i = xs[i.toNat]? := by
  have e : i = (i.toNat : Int) := by omega
  rw [e, atI_nat]; rfl
@[simp] theorem op_ix (o : Om) (x : D) (i : Int) : opIx o x (.int i) = (qv o x).bind fun xs => L2.atI xs i := rfl
@[simp] theorem atI_0 {α : Type} (xs : List α) : L2.atI xs 0 = xs[0]? := atI_nat xs 0
@[simp] theorem atI_1 {α : Type} (xs : List α) : L2.atI xs 1 = xs[1]? := atI_nat xs 1
@[simp] theorem atI_2 {α : Type} (xs : List α) : L2.atI xs 2 = xs[2]? := atI_nat xs 2
@[simp] theorem atI_3 {α : Type} (xs : List α) : L2.atI xs 3 = xs[3]? := atI_nat xs 3
theorem sIx_some {n d : Nat} {i : Int} (h : 0 ≤ i) (hn : i ≤ n) : HT.sIx n d (some i) = i.toNat := by
  show (if i < 0 then (i + (n : Int)).toNat else min i.toNat n) = i.toNat
  rw [if_neg (by omega)]
  omega
theorem cut_to (xs : List D) {i : Int} (h : 0 ≤ i) (hn : i ≤ xs.length) : cutD xs none (some i) = xs.take i.toNat := by
  unfold cutD
  rw [sIx_some h hn]
  simp [HT.sIx]
theorem cut_from (xs : List D) {i : Int} (h : 0 ≤ i) (hn : i ≤ xs.length) : cutD xs (some i) none = xs.drop i.toNat := by
  unfold cutD
  rw [sIx_some h hn]
  simp [HT.sIx]
  exact List.take_of_length_le (by simp)
@[simp] theorem op_addL {o : Om} {xs ys : List D} (h : xs.length + ys.length ≤ 100000) : opAdd o (.lst xs) (.lst ys) = some (.lst (xs ++ ys)) := if_pos h
@[simp] theorem op_addT {o : Om} {x : D} {xs ys : List D} (h : (x :: xs).length + ys.length ≤ 100000) : opAdd o (.tup (x :: xs)) (.tup ys) = some (.tup (x :: xs ++ ys)) := if_pos ⟨rfl, h⟩
end KR
set_option Elab.async false
set_option linter.all false
set_option maxRecDepth 100000
set_option maxHeartbeats 2000000
namespace KR
open PySem PySem.Spec PyProof.Rows L2
/-! ### the head of a law whose defs make lambdas: the facts, a Bool more, the tables empty -/
def asK (g : Addr → Option Obj) (n : Nat) : List Addr := He.asD g n ++ [cStatics]
abbrev fragK (g : Addr → Option Obj) (n : Nat) : PySem.W.Frag := He.frT g (asK g n)
def obsK (n : Nat) (fa : List He.Fa) (fn : List He.DefD) (tf : List He.Defn) (ex : PySem.W.Frag → Bool) (g : Addr → Option Obj) : He.AlD × Bool := (He.obsD fa fn (fragK g n), ex (fragK g n) && He.tabsB g tf (fragK g n))
structure SaysK (fa : List He.Fa) (fn : List He.DefD) (tf : List He.Defn) (ex : PySem.W.Frag → Bool) (h : Heap) (K : PySem.W.Frag) : Prop where
  d : He.SaysD fa fn K
  ex : ex K = true
  hd : ∀ p ∈ tf, PySem.W.codeHdIn K (He.cT K p).1 (He.cT K p).2 = true
  out : ∀ p ∈ tf, K.lookup (He.cT K p).2 = none
  empty : ∀ p ∈ tf, h.get? (He.cT K p).2 = some { cls := .none, data := .fields #[] }
theorem saysK_of {n : Nat} {fa : List He.Fa} {fn : List He.DefD} {tf : List He.Defn} {ex : PySem.W.Frag → Bool} {h : Heap} (e : obsK n fa fn tf ex h.get? = (He.valD fn, true)) : SaysK fa fn tf ex h (fragK h.get? n) := by
  have e1 : He.obsD fa fn (fragK h.get? n) = He.valD fn := (Prod.mk.inj e).1
  have e2 : (ex (fragK h.get? n) && He.tabsB h.get? tf (fragK h.get? n)) = true := (Prod.mk.inj e).2
  rw [Bool.and_eq_true] at e2
  have each : ∀ p ∈ tf, PySem.W.codeHdIn (fragK h.get? n) (He.cT (fragK h.get? n) p).1 (He.cT (fragK h.get? n) p).2 = true ∧ ∃ o, h.get? (He.cT (fragK h.get? n) p).2 = some o ∧ He.emptyTab o = true := fun p hp => by
    have := List.all_eq_true.mp e2.2 p hp
    rw [Bool.and_eq_true] at this
    refine ⟨this.1, ?_⟩
    have h2 := this.2
    split at h2
    · rename_i o q
      exact ⟨o, q, h2⟩
    · cases h2
  constructor
  · exact e1
  · exact e2.1
  · exact fun p hp => (each p hp).1
  · intro p hp
    obtain ⟨o, q, z⟩ := (each p hp).2
    exact He.frT_none q z
  · intro p hp
    obtain ⟨o, q, z⟩ := (each p hp).2
    rw [q, He.emptyTab_eq z]
def hookK (n : Nat) (fa : List He.Fa) (fn : List He.DefD) (tf : List He.Defn) (ex : PySem.W.Frag → Bool) : PySem.W.Hook where
  α := He.AlD × Bool
  obs := fun s => obsK n fa fn tf ex s.heap.get?
  val := fun _ => (He.valD fn, true)
  says := fun _ h => ∃ K : PySem.W.Frag, K.In h ∧ SaysK fa fn tf ex h K
  of := fun _ _ e => ⟨_, He.frT_in, saysK_of e⟩
  keeps := fun _ _ _ ⟨K, hK, c⟩ k => ⟨K, PySem.W.Frag.In.keeps hK k, ⟨c.d, c.ex, c.hd, c.out, fun p hp => k _ _ (c.empty p hp)⟩⟩
theorem obsK_eq {n : Nat} {fa : List He.Fa} {fn : List He.DefD} {tf : List He.Defn} {ex : PySem.W.Frag → Bool} {g : Addr → Option Obj} {s : Shared} (h : ∀ a, g a = s.heap.get? a) : obsK n fa fn tf ex g = (hookK n fa fn tf ex).obs s := by
  rw [show g = s.heap.get? from funext h]; rfl
/-- what such a law's def promises of a script -/
theorem law_spT {K : PySem.W.Frag} {C : Addr} {φ : Phi} {x : Str} (law : ∀ ns : List Int, ns.length ≤ 63 → V (fun d _ => d = .bl true) (fun _ _ => False) (φ [.scr ns] [.tb x])) (H : Hp) (a : Addr) (ns : List Int) (hl : ns.length ≤ 63) (hP : H (tbAt K x) = some (.tbl #[])) (hS : SqL K H a (ns.map V.int)) :
    spF K C 1 φ [.ref a] H (fun v _ => v = .bl true) fun _ _ _ => False := by
  obtain ⟨F, hF⟩ : ∃ F : Hp, F = fun b => if b = tbAt K x then none else H b := ⟨_, rfl⟩
  have FP : F (tbAt K x) = none := by rw [hF]; exact if_pos rfl
  have Fo : ∀ b, b ≠ tbAt K x → F b = H b := fun b hb => by rw [hF]; exact if_neg hb
  have sub : Sub F H := fun b o e => by
    by_cases hb : b = tbAt K x
    · rw [hb, FP] at e; cases e
    · rw [← Fo b hb]; exact e
  have st : Store K C F [tbAt K x] H [.tb x] := by
    refine ⟨rfl, by simp, fun b hb => ?_, fun n b mo h1 h2 => ?_⟩
    · rw [List.mem_singleton.mp hb, hP]; exact fun z => nomatch z
    · match n, h1, h2 with
      | 0, h1, h2 =>
        cases h1
        cases h2
        refine ⟨FP, rfl, #[], hP, trivial, fun p cv q => ?_⟩
        have z : PySem.codeAmong p [] = some cv := q
        simp [PySem.codeAmong] at z
      | n + 1, h1, _ => simp at h1
  have seq : SqL K F a (ns.map V.int) := by
    rcases hS with (h | ⟨o, h⟩) | h
    · exact .inl (.inl ((Fo a fun z => by rw [z, hP] at h; cases h).trans h))
    · exact .inl (.inr ⟨o, (Fo a fun z => by rw [z, hP] at h; cases h).trans h⟩)
    · exact .inr h
  refine ⟨rfl, F, [tbAt K x], [.tb x], [.scr ns], sub, st, .cons (.scr seq) .nil, ?_⟩
  have := law ns hl
  cases q : φ [.scr ns] [.tb x] with
  | ok d o =>
    rw [q] at this
    have e : d = .bl true := this
    subst e
    exact fun F' H' B' v _ _ i => by cases i; rfl
  | exc y o => rw [q] at this; exact this.elim
  | bad => rw [q] at this; exact this.elim
/-- the end -/
theorem law_walkT {l : PySem.W.OpenLaw} {q : Program} {loose : List Str} {XP : (Str → Option Value) → Heap → Prop} {YP : World → Heap → Prop} {d : DefRec} {φ : Phi} {k : Nat} {x t : Str} (m63 : l.most = some 63) (bare : d.params.defaults = []) (room : Room k callerA)
    (law : ∀ ns : List Int, ns.length ≤ 63 → V (fun d _ => d = .bl true) (fun _ _ => False) (φ [.scr ns] [.tb t]))
    (top : ∀ (w : World) (mg : Str → Option Value) (fa : Addr) (h : Heap), YP w h → h.Ns mainGlobals mg → mg d.name = some (.ref fa) → ∃ (K : PySem.W.Frag) (fd : FuncData), K.In h ∧ h.get? (tbAt K t) = some { cls := .none, data := .fields #[] } ∧ K.lookup (tbAt K t) = none ∧ PySem.W.codeHdIn K (He.cT K (t, none)).1 (tbAt K t) = true ∧
      (∀ (s : Shared) (u : Value), BindsTo s fd ⟨[u], []⟩ [(x, u)]) ∧
      ∀ base : Heap, K.In base → base.Ns mainGlobals mg → LamX.TabB base mg (He.cT K (t, none)).1 (tbAt K t) → FnOk l.prog w K mg base (L2.CX l.prog w) k fa fd [x] (spF K (He.ga K "Book") 1 φ)) :
    PySem.W.WalkO q loose XP YP l.row.toRowW d [] (fun f vs => PySem.call f vs) := by
  refine LamX.walk_ofTsE (n := 63) (CX := fun w => L2.CX l.prog w) (x := x) (k := k) m63 (by decide) bare room ?_ (fun w H s e s' ⟨_, _, _, _, _, _, _, _, _, _, _, _, z⟩ => z)
  intro w mg fa h Y G named
  obtain ⟨K, fd, inK, tab, out, hd, binds, ok⟩ := top w mg fa h Y G named
  refine ⟨K, inK, fd, [He.cT K (t, none)], _, ?_, ?_, ?_, binds, fun H a ns hl _ hT hS => law_spT (x := t) law H a ns hl (hT _ (List.mem_singleton.mpr rfl)) hS, fun base X2 G2 TB => ok base X2 G2 (TB _ (List.mem_singleton.mpr rfl))⟩
  · intro p hp; rw [List.mem_singleton.mp hp]; exact tab
  · intro p hp; rw [List.mem_singleton.mp hp]; exact out
  · intro p hp; rw [List.mem_singleton.mp hp]; exact PySem.W.codeHd_of_K inK hd
theorem lamQ_cxd {P : Program} {w : World} {K : PySem.W.Frag} {mg : Str → Option Value} {base : Heap} {N : List Str} {qual : Str} {scope : Scope} {f : Addr} {cdv : Value} {A : Around} {outer : List Env} {s : Shared} {H : Hp} {E : XK} : lamQ (cxd P w K mg base N qual scope f cdv A outer s H E) = tbQ qual := rfl
theorem code_cxd {P : Program} {w : World} {K : PySem.W.Frag} {mg : Str → Option Value} {base : Heap} {N : List Str} {qual x : Str} {scope : Scope} {f : Addr} {A : Around} {outer : List Env} {s : Shared} {H : Hp} {E : XK} : (cxd P w K mg base N qual scope f (.ref (He.codeOf K (x, none))) A outer s H E).env.code = .ref (He.cT K (x, none)).1 := rfl
end KR
set_option Elab.async false
set_option linter.all false
set_option maxRecDepth 100000
set_option maxHeartbeats 4000000
namespace KR
open PySem PySem.Spec PyProof.Rows L2 LamX
/-! ### told(lambda ..), the body shown over a context of letters -/
def litCx (P : Program) (w : World) (K : PySem.W.Frag) (mg : Str → Option Value) (base : Heap) (N : List Str) (scope : Scope) (A : Around) (s : Shared) (H : Hp) (q : Str) (L f : Addr) (cd : Value) (cl : List (Str × Addr)) (outer stack : List Env) (xe : Value → Shared → Prop) : Cx where
  prog := P
  w := w
  K := K
  mg := mg
  base := base
  A := A
  N := N
  s_0 := s
  H_0 := H
  env := PySem.W.envX q scope L f cd cl
  outer := outer
  stack := stack
  ex := []
  fn := fun _ => false
  calm := true
  pn := []
  xe := xe
/-- what is to be shown of a lambda's body -/
def LamDoes (P : Program) (w : World) (K : PySem.W.Frag) (mg : Str → Option Value) (base : Heap) (C : Addr) (N : List Str) (scope : Scope) (k : Nat) (body : Expr) (fb : KR.DE) : Prop :=
  ∀ (A : Around) (s : Shared) (H : Hp) (q : Str) (L f : Addr) (cd : Value) (cl : List (Str × Addr)) (outer stack : List Env) (xe : Value → Shared → Prop) (E : XK), Room k A → Passes (L2.CX P w) (litCx P w K mg base N scope A s H q L f cd cl outer stack xe) E →
    EX (litCx P w K mg base N scope A s H q L f cd cl outer stack xe) C E body fb
section
variable {P : Program} {w : World} {K : PySem.W.Frag} {mg : Str → Option Value} {base : Heap} {N : List Str} {qual : Str} {sc : Scope} {fa : Addr} {A0 : Around} {outer0 : List Env} {s0 : Shared} {H0 : Hp}
variable {C : Addr} {E : XK} {k : Nat} {x xt : Str} {params : Arguments} {body : Expr} {scope : Scope} {p lpos pos : Pos} {fb : KR.DE}
theorem lam_does {X : Cx} {A : Around} {outer : List Env} {s : Shared} {H : Hp} {E : XK} {f c' : Addr} (hr : Room k (A.deeper (lamEnv X scope s.heap.objs.size f c'))) (d : LamDoes X.prog X.w X.K X.mg X.base C X.N scope k body fb) : EX (lamCx X A outer s H E scope f c') C E body fb :=
  d _ s H _ _ f _ _ outer _ _ E hr lam_passes
theorem eT0 {hd : XK} (TD : TOLD P w K mg base C (k + 1) xt) (TB : TabB base mg (He.cT K (x, none)).1 (tbAt K x)) (hr : Room (k + 2) (A0.deeper (envOfC x sc s0.heap.objs.size fa (.ref (He.codeOf K (x, none)))))) (L : LamU sc scope N) (bare : params.defaults = [] ∧ params.kw_defaults = [])
    (bind : ∀ (q : Str) (cl : List (Str × Addr)) (doc pm cv ctv : Value), bindArgs (PySem.W.kdv_fn "<lambda>" q params (.expr body) scope cl .none doc pm cv ctv) ⟨[], []⟩ = pure [])
    (does : LamDoes P w K mg base C N scope k body fb)
    (hg : sc.names.lookup xt = some .globalImplicit) (hdb : (xt == ("__debug__" : Str)) = false := by decide) :
    EX (cxd P w K mg base N x sc fa (.ref (He.codeOf K (x, none))) A0 outer0 s0 H0 hd) C E (.Call (.Name xt p) [.Lambda params body scope lpos] [] pos) (dTold x fb) := by
  refine eTold0 (X := cxd P w K mg base N x sc fa (.ref (He.codeOf K (x, none))) A0 outer0 s0 H0 hd) (k := k) TD rfl rfl TB hr L ?_ bind (fun A outer s H E f c' hr => lam_does (X := cxd P w K mg base N x sc fa (.ref (He.codeOf K (x, none))) A0 outer0 s0 H0 hd) hr does) hg hdb
  obtain ⟨p1, p2, p3, p4, p5, p6, p7⟩ := params
  obtain ⟨h1, h2⟩ := bare
  have h1 : p7 = [] := h1
  have h2 : p5 = [] := h2
  subst h1 h2
  rfl
theorem eT1 {hd : XK} {ar : Str} {i : Int} {j : Nat} {ip : Pos} (TD : TOLD P w K mg base C (k + 1) xt) (TB : TabB base mg (He.cT K (x, none)).1 (tbAt K x)) (hr : Room (k + 2) (A0.deeper (envOfC x sc s0.heap.objs.size fa (.ref (He.codeOf K (x, none)))))) (L : LamU sc scope N)
    (one : params.defaults = [.Constant (.int i) j ip]) (nokw : params.kw_defaults = []) (loc : scope.names.lookup ar = some .local)
    (bind : ∀ (q : Str) (cl : List (Str × Addr)) (T : Addr) (doc pm cv ctv u : Value), ∃ kk : Option (Array Value) → Sem (List (Str × Value)), bindArgs (PySem.W.kdv_fn "<lambda>" q params (.expr body) scope cl (.ref T) doc pm cv ctv) ⟨[], []⟩ = seqItems? (.ref T) >>= kk ∧ kk (some #[u]) = pure [(ar, u)])
    (does : LamDoes P w K mg base C N scope k body fb)
    (hg : sc.names.lookup xt = some .globalImplicit) (hdb : (xt == ("__debug__" : Str)) = false := by decide) :
    EX (cxd P w K mg base N x sc fa (.ref (He.codeOf K (x, none))) A0 outer0 s0 H0 hd) C E (.Call (.Name xt p) [.Lambda params body scope lpos] [] pos) (dTold x fb) :=
  eTold1 (X := cxd P w K mg base N x sc fa (.ref (He.codeOf K (x, none))) A0 outer0 s0 H0 hd) (k := k) TD rfl rfl TB hr L one nokw loc bind (fun A outer s H E f c' hr => lam_does (X := cxd P w K mg base N x sc fa (.ref (He.codeOf K (x, none))) A0 outer0 s0 H0 hd) hr does) hg hdb
end
end KR
set_option Elab.async false
set_option linter.all false
set_option maxRecDepth 100000
set_option maxHeartbeats 2000000
namespace KR
open PySem L2
/-- k08 _law_dice, 0:_law_script 1:_law_mixed 2:_law_cell -/
def den_l_dice : DS := (dSeq (dAsg (dC (.int 0)) (pNm 1)) (dSeq (dFor (iSeq' (dVar 0)) (pNm 2) (dAsg (d2 opMod (d2 opAdd (d2 opAdd (d2 opMul (dVar 1) (dC (.int 48271))) (d2 opMul (d2 opMod (dVar 2) (dC (.int 2147483647))) (dC (.int 69621)))) (dC (.int 11))) (dC (.int 2147483647))) (pNm 1))) (dRet (dLstH (dCons (dVar 0) (dCons (dC (.int 0)) (dCons (d2 opMul (dVar 1) (dN opInt (dCons (d2 opGt (dN opLen (dCons (dVar 0) dNil)) (dC (.int 2))) dNil))) (dCons (dC (.int 0)) dNil))))))))
def phi_l_dice : Phi := dDef 3 den_l_dice
/-- k08 _law_next, 0:_law_dice_here 1:_law_many 2:_law_found 3:_law_cell -/
def den_l_next : DS := (dSeq (dIfS (dT (d2 opGt (d2 opIx (dVar 0) (dC (.int 3))) (dC (.int 0)))) (dSeq (dAsg (d2 opMod (d2 opIx (dVar 0) (dC (.int 3))) (dVar 1)) (pNm 2)) (dSeq (dSetI (dVar 0) (dC (.int 3)) (d2 opDiv (d2 opIx (dVar 0) (dC (.int 3))) (dVar 1))) (dRet (dVar 2)))) dSkip) (dSeq (dSetI (dVar 0) (dC (.int 1)) (d2 opAdd (d2 opIx (dVar 0) (dC (.int 1))) (dC (.int 1)))) (dSeq (dIfS (dT (d2 opLe (d2 opIx (dVar 0) (dC (.int 1))) (dN opLen (dCons (d2 opIx (dVar 0) (dC (.int 0))) dNil)))) (dSeq (dAsg (d2 opIx (d2 opIx (dVar 0) (dC (.int 0))) (d2 opSub (d2 opIx (dVar 0) (dC (.int 1))) (dC (.int 1)))) (pNm 3)) (dSeq (dSetI (dVar 0) (dC (.int 3)) (dIf (dT (d2 opGe (dVar 3) (d2 opPow (dC (.int 10)) (dC (.int 18))))) (d2 opDiv (dVar 3) (dVar 1)) (dC (.int 0)))) (dRet (d2 opMod (dVar 3) (dVar 1))))) dSkip) (dSeq (dSetI (dVar 0) (dC (.int 2)) (d2 opMod (d2 opMul (d2 opIx (dVar 0) (dC (.int 2))) (dC (.int 48271))) (dC (.int 2147483647)))) (dRet (d2 opMod (d2 opDiv (d2 opIx (dVar 0) (dC (.int 2))) (dC (.int 7))) (dVar 1)))))))
def phi_l_next : Phi := dDef 4 den_l_next
/-- k08 _law_window, 0:_law_d 1:_law_far 2:_law_early 3:_law_wide -/
def den_l_window : DS := (dSeq (dAsg (dCall 2 phi_l_next (dCons (dVar 0) (dCons (d2 opAdd (dVar 1) (dC (.int 1))) dNil))) (pNm 2)) (dSeq (dAsg (d2 opIx (dN opLst (dCons (dC (.int 0)) (dCons (d2 opAdd (dC (.int 1)) (dCall 2 phi_l_next (dCons (dVar 0) (dCons (dC (.int 3)) dNil)))) (dCons (dCall 2 phi_l_next (dCons (dVar 0) (dCons (d2 opAdd (dVar 1) (dC (.int 1))) dNil))) dNil)))) (dCall 2 phi_l_next (dCons (dVar 0) (dCons (dC (.int 3)) dNil)))) (pNm 3)) (dRet (dN opTup (dCons (dVar 2) (dCons (dN opMin (dCons (dVar 1) (dCons (d2 opAdd (dVar 2) (dVar 3)) dNil))) dNil))))))
def phi_l_window : Phi := dDef 4 den_l_window
/-- k08 _law_fits, 0:_law_rows 1:_law_here 2:_law_place -/
def den_l_fits : DS := (dSeq (dAsg (dC (.int 0)) (pNm 1)) (dSeq (dFor (iR1 (dN opLen (dCons (dVar 0) dNil))) (pNm 2) (dSeq (dAsg (dN opMax (dCons (dVar 1) (dCons (d2 opIx (d2 opIx (dVar 0) (dVar 2)) (dC (.int 1))) dNil))) (pNm 1)) (dIfS (dT (d2 opGt (dVar 1) (d2 opIx (d2 opIx (dVar 0) (dVar 2)) (dC (.int 2))))) (dRet (dVar 2)) dSkip))) (dRet (dC .non))))
def phi_l_fits : Phi := dDef 3 den_l_fits
/-- k08 _law_row, 0:_law_d 1:_law_most 2:_law_far 3:_law_kinds 4:_law_found 5:_law_k 6:_law_row_here 7:_law_at -/
def den_l_row : DS := (dSeq (dAsg (dN opLst dNil) (pNm 4)) (dSeq (dFor (iR1 (dCall 2 phi_l_next (dCons (dVar 0) (dCons (d2 opAdd (dVar 1) (dC (.int 1))) dNil)))) (pNm 5) (dSeq (dAsg (d2 opAdd (dN opTup (dCons (d2 opIx (dVar 3) (dCall 2 phi_l_next (dCons (dVar 0) (dCons (dN opLen (dCons (dVar 3) dNil)) dNil)))) dNil)) (dCall 2 phi_l_window (dCons (dVar 0) (dCons (dVar 2) dNil)))) (pNm 6)) (dSeq (dAsg (dCall 2 phi_l_next (dCons (dVar 0) (dCons (d2 opAdd (dN opLen (dCons (dVar 4) dNil)) (dC (.int 1))) dNil))) (pNm 7)) (dIfS (dT (d2 opIs (dCall 1 phi_l_fits (dCons (d2 opAdd (d2 opAdd (dSl opSl (dVar 4) doNo (doSo (dVar 7))) (dN opLst (dCons (dVar 6) dNil))) (dSl opSl (dVar 4) (doSo (dVar 7)) doNo)) dNil)) (dC .non))) (dAsg (d2 opAdd (d2 opAdd (dSl opSl (dVar 4) doNo (doSo (dVar 7))) (dN opLst (dCons (dVar 6) dNil))) (dSl opSl (dVar 4) (doSo (dVar 7)) doNo)) (pNm 4)) dSkip)))) (dRet (dVar 4))))
def phi_l_row : Phi := dDef 8 den_l_row
/-- k08 _law_case own , 0:_law_d 1:_law_persons 2:_law_sizes 3:_law_far 4:_law_people 5:_law_kinds 6:_law_keys 7:_law_k 8:_law_opens 9:_law_doors 10:_law_kind -/
def den_l_case : DS := (dSeq (dAsg (d2 opAdd (d1 opLRg (dVar 1)) (d2 opMul (dN opLst (dCons (dC .non) dNil)) (dCall 2 phi_l_next (dCons (dVar 0) (dCons (dC (.int 2)) dNil))))) (pNm 4)) (dSeq (dAsg (d1 opLRg (d2 opIx (dN opLst (dCons (dC (.int 4)) (dCons (dC (.int 4)) (dCons (dC (.int 10)) dNil)))) (dCall 2 phi_l_next (dCons (dVar 0) (dCons (dC (.int 3)) dNil))))) (pNm 5)) (dSeq (dOwn 6 dNil) (dSeq (dFor (iR1 (d2 opAdd (dC (.int 1)) (dCall 2 phi_l_next (dCons (dVar 0) (dCons (d2 opIx (dVar 2) (dC (.int 0))) dNil))))) (pNm 7) (dSeq (dAsg (dN opTuple (dCons (dLc (iSeq' (dVar 5)) (pNm 10) (dT (d2 opEq (dCall 2 phi_l_next (dCons (dVar 0) (dCons (dC (.int 2)) dNil))) (dC (.int 0)))) (dVar 10) [10]) dNil)) (pNm 8)) (dApp 6 (dN opTup (dCons (dVar 8) (dCons (d2 opEq (dCall 2 phi_l_next (dCons (dVar 0) (dCons (dC (.int 3)) dNil))) (dC (.int 2))) (dCons (dCall 4 phi_l_row (dCons (dVar 0) (dCons (d2 opIx (dVar 2) (dC (.int 1))) (dCons (dVar 3) (dCons (dVar 4) dNil))))) dNil))))))) (dSeq (dAsg (dLc (iR1 (d2 opAdd (dC (.int 1)) (dCall 2 phi_l_next (dCons (dVar 0) (dCons (d2 opIx (dVar 2) (dC (.int 2))) dNil))))) (pNm 7) dYes (dCall 4 phi_l_row (dCons (dVar 0) (dCons (d2 opIx (dVar 2) (dC (.int 1))) (dCons (dVar 3) (dCons (dVar 5) dNil))))) [7]) (pNm 9)) (dSeq (dFz 6) (dRet (dN opTup (dCons (dVar 1) (dCons (dVar 6) (dCons (dVar 9) dNil)))))))))))
def phi_l_case : Phi := dDef 11 den_l_case
/-- k08 Book.__init__, 0:self 1:persons 2:doors 3:door -/
def den_Book_init : DS := (dSeq (dIfS (dOr (dNot (dT (dChain opLe opLe (dC (.int 1)) (dVar 1) (dC (.int 8))))) (dNot (dT (dChain opLe opLe (dC (.int 1)) (dVar 2) (dC (.int 4)))))) dDead dSkip) (dSeq (dSetF "many" (dVar 0) (dVar 1)) (dSeq (dSetF "doors" (dVar 0) (dLcH (iR1 (dVar 2)) (pNm 3) dYes (dN opLst dNil) [3])) (dSeq (dSetF "opens" (dVar 0) (dLstH dNil)) (dSeq (dSetF "plain" (dVar 0) (dLstH dNil)) (dSetF "rows" (dVar 0) (dLstH dNil)))))))
def phi_Book_init : Phi := dDef 4 den_Book_init
/-- k08 Book.cut, 0:self 1:opens 2:plain 3:good 4:kind -/
def den_Book_cut : DS := (dSeq (dAsg (d2 opEq (dN opList (dCons (dVar 1) dNil)) (d1 opSSet (dVar 1))) (pNm 3)) (dSeq (dIfS (dOr (dNot (dT (dVar 3))) (dT (d2 opNe (dLc (iSeq' (dVar 1)) (pNm 4) (dNot (dT (dChain opLe opLe (dC (.int 0)) (dVar 4) (dC (.int 9))))) (dVar 4) [4]) (dN opLst dNil)))) dDead dSkip) (dSeq (dIfS (dT (d2 opEq (dN opLen (dCons (dFld "rows" (dVar 0)) dNil)) (dC (.int 6)))) dDead dSkip) (dSeq (dDrop (dBM mAppend (dFld "opens" (dVar 0)) (dCons (dN opTuple (dCons (dVar 1) dNil)) dNil))) (dSeq (dDrop (dBM mAppend (dFld "plain" (dVar 0)) (dCons (dVar 2) dNil))) (dSeq (dDrop (dBM mAppend (dFld "rows" (dVar 0)) (dCons (dN opLst dNil) dNil))) (dRet (d2 opSub (dN opLen (dCons (dFld "rows" (dVar 0)) dNil)) (dC (.int 1))))))))))
def phi_Book_cut : Phi := dDef 5 den_Book_cut
/-- k08 Book.need_key, 0:self 1:name -/
def den_Book_need_key : DS := (dIfS (dNot (dT (dChain opLe opLt (dC (.int 0)) (dVar 1) (dN opLen (dCons (dFld "rows" (dVar 0)) dNil))))) dDead dSkip)
def phi_Book_need_key : Phi := dDef 2 den_Book_need_key
/-- k08 need_place, 0:rows 1:place -/
def den_need_place : DS := (dIfS (dOr (dNot (dT (dChain opLe opLe (dC (.int 0)) (dVar 1) (dN opLen (dCons (dVar 0) dNil))))) (dT (d2 opEq (dN opLen (dCons (dVar 0) dNil)) (dC (.int 8))))) dDead dSkip)
def phi_need_place : Phi := dDef 2 den_need_place
/-- k08 Book.need_person, 0:self 1:person -/
def den_Book_need_person : DS := (dIfS (dNot (dT (dChain opLe opLt (dC (.int 0)) (dVar 1) (dFld "many" (dVar 0))))) dDead dSkip)
def phi_Book_need_person : Phi := dDef 2 den_Book_need_person
/-- k08 earliest own , 0:rows 1:found 2:here 3:what 4:early 5:late -/
def den_earliest : DS := (dSeq (dOwn 1 dNil) (dSeq (dAsg (dC (.int 0)) (pNm 2)) (dSeq (dFor (iSeq' (dVar 0)) (pTp (psLen 3 (psCons (pNm 3) (psCons (pNm 4) (psCons (pNm 5) psNil))))) (dSeq (dAsg (dN opMax (dCons (dVar 2) (dCons (dVar 4) dNil))) (pNm 2)) (dApp 1 (dVar 2)))) (dSeq (dFz 1) (dRet (dVar 1))))))
def phi_earliest : Phi := dDef 6 den_earliest
/-- k08 first_bad, 0:rows 1:soon 2:place -/
def den_first_bad : DS := (dSeq (dAsg (dCall 1 phi_earliest (dCons (dVar 0) dNil)) (pNm 1)) (dSeq (dFor (iR1 (dN opLen (dCons (dVar 0) dNil))) (pNm 2) (dIfS (dT (d2 opGt (d2 opIx (dVar 1) (dVar 2)) (d2 opIx (d2 opIx (dVar 0) (dVar 2)) (dC (.int 2))))) (dRet (dVar 2)) dSkip)) (dRet (dC .non))))
def phi_first_bad : Phi := dDef 3 den_first_bad
/-- k08 with_row, 0:rows 1:place 2:row 3:found 4:bad -/
def den_with_row : DS := (dSeq (dIfS (dNot (dT (dChain3 opLe opLe opLe (dC (.int 0)) (d2 opIx (dVar 2) (dC (.int 1))) (d2 opIx (dVar 2) (dC (.int 2))) (dC (.int 999))))) dDead dSkip) (dSeq (dAsg (d2 opAdd (d2 opAdd (dSl opSl (dVar 0) doNo (doSo (dVar 1))) (dN opLst (dCons (dVar 2) dNil))) (dSl opSl (dVar 0) (doSo (dVar 1)) doNo)) (pNm 3)) (dSeq (dAsg (dCall 1 phi_first_bad (dCons (dVar 3) dNil)) (pNm 4)) (dSeq (dIfS (dT (d2 opIsNot (dVar 4) (dC .non))) dDead dSkip) (dRet (dVar 3))))))
def phi_with_row : Phi := dDef 5 den_with_row
/-- k08 Book.hand, 0:self 1:name 2:place 3:person 4:early 5:late -/
def den_Book_hand : DS := (dSeq (dDrop (dMeth "need_key" 2 phi_Book_need_key (dVar 0) (dCons (dVar 1) dNil))) (dSeq (dDrop (dCall 2 phi_need_place (dCons (d2 opIx (dFld "rows" (dVar 0)) (dVar 1)) (dCons (dVar 2) dNil)))) (dSeq (dIfS (dT (d2 opIsNot (dVar 3) (dC .non))) (dDrop (dMeth "need_person" 2 phi_Book_need_person (dVar 0) (dCons (dVar 3) dNil))) dSkip) (dSetI (dFld "rows" (dVar 0)) (dVar 1) (dCall 3 phi_with_row (dCons (d2 opIx (dFld "rows" (dVar 0)) (dVar 1)) (dCons (dVar 2) (dCons (dN opTup (dCons (dVar 3) (dCons (dVar 4) (dCons (dVar 5) dNil)))) dNil))))))))
def phi_Book_hand : Phi := dDef 6 den_Book_hand
/-- k08 Book.entries, 0:self 1:name -/
def den_Book_entries : DS := (dSeq (dDrop (dMeth "need_key" 2 phi_Book_need_key (dVar 0) (dCons (dVar 1) dNil))) (dRet (dN opList (dCons (d2 opIx (dFld "rows" (dVar 0)) (dVar 1)) dNil))))
def phi_Book_entries : Phi := dDef 2 den_Book_entries
/-- k08 Book.need_door, 0:self 1:door -/
def den_Book_need_door : DS := (dIfS (dNot (dT (dChain opLe opLt (dC (.int 0)) (dVar 1) (dN opLen (dCons (dFld "doors" (dVar 0)) dNil))))) dDead dSkip)
def phi_Book_need_door : Phi := dDef 2 den_Book_need_door
/-- k08 Book.fit, 0:self 1:door 2:place 3:kind 4:early 5:late -/
def den_Book_fit : DS := (dSeq (dDrop (dMeth "need_door" 2 phi_Book_need_door (dVar 0) (dCons (dVar 1) dNil))) (dSeq (dDrop (dCall 2 phi_need_place (dCons (d2 opIx (dFld "doors" (dVar 0)) (dVar 1)) (dCons (dVar 2) dNil)))) (dSeq (dIfS (dNot (dT (dChain opLe opLe (dC (.int 0)) (dVar 3) (dC (.int 9))))) dDead dSkip) (dSetI (dFld "doors" (dVar 0)) (dVar 1) (dCall 3 phi_with_row (dCons (d2 opIx (dFld "doors" (dVar 0)) (dVar 1)) (dCons (dVar 2) (dCons (dN opTup (dCons (dVar 3) (dCons (dVar 4) (dCons (dVar 5) dNil)))) dNil))))))))
def phi_Book_fit : Phi := dDef 6 den_Book_fit
/-- k08 Book.fitted, 0:self 1:door -/
def den_Book_fitted : DS := (dSeq (dDrop (dMeth "need_door" 2 phi_Book_need_door (dVar 0) (dCons (dVar 1) dNil))) (dRet (dN opList (dCons (d2 opIx (dFld "doors" (dVar 0)) (dVar 1)) dNil))))
def phi_Book_fitted : Phi := dDef 2 den_Book_fitted
/-- k08 _law_book, 0:_law_case_here 1:_law_persons 2:_law_keys 3:_law_doors 4:_law_book_here 5:_law_opens 6:_law_plain 7:_law_rows 8:_law_name 9:_law_who 10:_law_early 11:_law_late 12:_law_door 13:_law_kind -/
def den_l_book : DS := (dSeq (dAsg (dVar 0) (pTp (psLen 3 (psCons (pNm 1) (psCons (pNm 2) (psCons (pNm 3) psNil)))))) (dSeq (dAsg (dMake 3 phi_Book_init (dCons (dVar 1) (dCons (dN opLen (dCons (dVar 3) dNil)) dNil))) (pNm 4)) (dSeq (dFor (iSeq' (dVar 2)) (pTp (psLen 3 (psCons (pNm 5) (psCons (pNm 6) (psCons (pNm 7) psNil))))) (dSeq (dAsg (dMeth "cut" 3 phi_Book_cut (dVar 4) (dCons (dVar 5) (dCons (dVar 6) dNil))) (pNm 8)) (dFor (iSeq' (dVar 7)) (pTp (psLen 3 (psCons (pNm 9) (psCons (pNm 10) (psCons (pNm 11) psNil))))) (dDrop (dMeth "hand" 6 phi_Book_hand (dVar 4) (dCons (dVar 8) (dCons (dN opLen (dCons (dMeth "entries" 2 phi_Book_entries (dVar 4) (dCons (dVar 8) dNil)) dNil)) (dCons (dVar 9) (dCons (dVar 10) (dCons (dVar 11) dNil)))))))))) (dSeq (dFor (iR1 (dN opLen (dCons (dVar 3) dNil))) (pNm 12) (dFor (iSeq' (d2 opIx (dVar 3) (dVar 12))) (pTp (psLen 3 (psCons (pNm 13) (psCons (pNm 10) (psCons (pNm 11) psNil))))) (dDrop (dMeth "fit" 6 phi_Book_fit (dVar 4) (dCons (dVar 12) (dCons (dN opLen (dCons (dMeth "fitted" 2 phi_Book_fitted (dVar 4) (dCons (dVar 12) dNil)) dNil)) (dCons (dVar 13) (dCons (dVar 10) (dCons (dVar 11) dNil))))))))) (dRet (dVar 4))))))
def phi_l_book : Phi := dDef 14 den_l_book
/-- k08 _law_narrow, 0:_law_d 1:_law_rows 2:_law_kinds 3:_law_found 4:_law_k 5:_law_what 6:_law_early 7:_law_late 8:_law_begin 9:_law_end 10:_law_other -/
def den_l_narrow : DS := (dSeq (dAsg (dN opList (dCons (dVar 1) dNil)) (pNm 3)) (dSeq (dFor (iR1 (dN opLen (dCons (dVar 1) dNil))) (pNm 4) (dSeq (dAsg (d2 opIx (dVar 1) (dVar 4)) (pTp (psLen 3 (psCons (pNm 5) (psCons (pNm 6) (psCons (pNm 7) psNil)))))) (dSeq (dAsg (d2 opAdd (dVar 6) (dCall 2 phi_l_next (dCons (dVar 0) (dCons (d2 opAdd (d2 opSub (dVar 7) (dVar 6)) (dC (.int 1))) dNil)))) (pNm 8)) (dSeq (dAsg (d2 opAdd (dVar 8) (dCall 2 phi_l_next (dCons (dVar 0) (dCons (d2 opAdd (d2 opSub (dVar 7) (dVar 8)) (dC (.int 1))) dNil)))) (pNm 9)) (dSeq (dIfS (dAnd (dT (d2 opIs (dVar 5) (dC .non))) (dT (d2 opEq (dCall 2 phi_l_next (dCons (dVar 0) (dCons (dC (.int 2)) dNil))) (dC (.int 0))))) (dAsg (d2 opIx (dVar 2) (dCall 2 phi_l_next (dCons (dVar 0) (dCons (dN opLen (dCons (dVar 2) dNil)) dNil)))) (pNm 5)) dSkip) (dSeq (dAsg (d2 opAdd (d2 opAdd (dSl opSl (dVar 3) doNo (doSo (dVar 4))) (dN opLst (dCons (dN opTup (dCons (dVar 5) (dCons (dVar 8) (dCons (dVar 9) dNil)))) dNil))) (dSl opSl (dVar 3) (doSo (d2 opAdd (dVar 4) (dC (.int 1)))) doNo)) (pNm 10)) (dIfS (dT (d2 opIs (dCall 1 phi_l_fits (dCons (dVar 10) dNil)) (dC .non))) (dAsg (dVar 10) (pNm 3)) dSkip))))))) (dRet (dVar 3))))
def phi_l_narrow : Phi := dDef 11 den_l_narrow
/-- k08 need_moment, 0:moment -/
def den_need_moment : DS := (dIfS (dNot (dT (dChain opLe opLe (dC (.int 0)) (dVar 0) (dC (.int 999))))) dDead dSkip)
def phi_need_moment : Phi := dDef 1 den_need_moment
/-- k08 latest own , 0:rows 1:found 2:here 3:what 4:early 5:late -/
def den_latest : DS := (dSeq (dOwn 1 dNil) (dSeq (dAsg (dC (.int 999)) (pNm 2)) (dSeq (dFor (iRv (dVar 0)) (pTp (psLen 3 (psCons (pNm 3) (psCons (pNm 4) (psCons (pNm 5) psNil))))) (dSeq (dAsg (dN opMin (dCons (dVar 2) (dCons (dVar 5) dNil))) (pNm 2)) (dApp 1 (dVar 2)))) (dSeq (dFz 1) (dRet (d1 opRev (dVar 1)))))))
def phi_latest : Phi := dDef 6 den_latest
/-- k08 stretches, 0:rows 1:soon 2:ends 3:kinds 4:row -/
def den_stretches : DS := (dSeq (dAsg (d2 opAdd (dN opLst (dCons (dC (.int 0)) dNil)) (dCall 1 phi_earliest (dCons (dVar 0) dNil))) (pNm 1)) (dSeq (dAsg (d2 opAdd (dCall 1 phi_latest (dCons (dVar 0) dNil)) (dN opLst (dCons (d2 opAdd (dC (.int 999)) (dC (.int 1))) dNil))) (pNm 2)) (dSeq (dAsg (d2 opAdd (dN opLst (dCons (dC .non) dNil)) (dLc (iSeq' (dVar 0)) (pNm 4) dYes (d2 opIx (dVar 4) (dC (.int 0))) [4])) (pNm 3)) (dRet (dN opLZip (dCons (dVar 3) (dCons (dVar 1) (dCons (dVar 2) dNil))))))))
def phi_stretches : Phi := dDef 5 den_stretches
/-- k08 possible, 0:rows 1:moment 2:some 3:place -/
def den_possible : DS := (dSeq (dAsg (dCall 1 phi_stretches (dCons (dVar 0) dNil)) (pNm 2)) (dRet (dLc (iR1 (dN opLen (dCons (dVar 2) dNil))) (pNm 3) (dT (dChain opLe opLt (d2 opIx (d2 opIx (dVar 2) (dVar 3)) (dC (.int 1))) (dVar 1) (d2 opIx (d2 opIx (dVar 2) (dVar 3)) (dC (.int 2))))) (dVar 3) [3])))
def phi_possible : Phi := dDef 4 den_possible
/-- k08 Book.who, 0:self 1:name 2:moment 3:rows 4:some 5:every 6:alone 7:place 8:person -/
def den_Book_who : DS := (dSeq (dAsg (d2 opIx (dFld "rows" (dVar 0)) (dVar 1)) (pNm 3)) (dSeq (dAsg (dLc (iSeq' (dCall 2 phi_possible (dCons (dVar 3) (dCons (dVar 2) dNil)))) (pNm 7) dYes (dIf (dT (d2 opGt (dVar 7) (dC (.int 0)))) (d2 opIx (d2 opIx (dVar 3) (d2 opSub (dVar 7) (dC (.int 1)))) (dC (.int 0))) (d1 opNeg (dC (.int 1)))) [7]) (pNm 4)) (dSeq (dAsg (dLc (iR1 (dFld "many" (dVar 0))) (pNm 8) (dOr (dT (d2 opIn (dVar 8) (dVar 4))) (dT (d2 opIn (dC .non) (dVar 4)))) (dVar 8) [8]) (pNm 5)) (dSeq (dAsg (dAndV (d2 opEq (d1 opLSet (dVar 4)) (dC (.int 1))) (dAndV (d2 opIsNot (d2 opIx (dVar 4) (dC (.int 0))) (dC .non)) (d2 opGe (d2 opIx (dVar 4) (dC (.int 0))) (dC (.int 0))))) (pNm 6)) (dRet (dN opTup (dCons (dIf (dT (dVar 6)) (d2 opIx (dVar 4) (dC (.int 0))) (dC .non)) (dCons (dVar 5) dNil))))))))
def phi_Book_who : Phi := dDef 9 den_Book_who
/-- k08 Book.holders, 0:self 1:name 2:moment -/
def den_Book_holders : DS := (dSeq (dDrop (dMeth "need_key" 2 phi_Book_need_key (dVar 0) (dCons (dVar 1) dNil))) (dSeq (dDrop (dCall 1 phi_need_moment (dCons (dVar 2) dNil))) (dRet (dMeth "who" 3 phi_Book_who (dVar 0) (dCons (dVar 1) (dCons (dVar 2) dNil))))))
def phi_Book_holders : Phi := dDef 3 den_Book_holders
/-- k08 Book.kinds, 0:self 1:door 2:moment 3:rows 4:some 5:place -/
def den_Book_kinds : DS := (dSeq (dAsg (d2 opIx (dFld "doors" (dVar 0)) (dVar 1)) (pNm 3)) (dSeq (dAsg (dLc (iSeq' (dCall 2 phi_possible (dCons (dVar 3) (dCons (dVar 2) dNil)))) (pNm 5) dYes (dIf (dT (d2 opGt (dVar 5) (dC (.int 0)))) (d2 opIx (d2 opIx (dVar 3) (d2 opSub (dVar 5) (dC (.int 1)))) (dC (.int 0))) (d1 opNeg (dC (.int 1)))) [5]) (pNm 4)) (dRet (d1 opSSet (dVar 4)))))
def phi_Book_kinds : Phi := dDef 6 den_Book_kinds
/-- k08 Book.locks, 0:self 1:door 2:moment -/
def den_Book_locks : DS := (dSeq (dDrop (dMeth "need_door" 2 phi_Book_need_door (dVar 0) (dCons (dVar 1) dNil))) (dSeq (dDrop (dCall 1 phi_need_moment (dCons (dVar 2) dNil))) (dRet (dMeth "kinds" 3 phi_Book_kinds (dVar 0) (dCons (dVar 1) (dCons (dVar 2) dNil))))))
def phi_Book_locks : Phi := dDef 3 den_Book_locks
/-- k08 need_all, 0:book 1:person 2:door 3:moment -/
def den_need_all : DS := (dSeq (dDrop (dMeth "need_person" 2 phi_Book_need_person (dVar 0) (dCons (dVar 1) dNil))) (dSeq (dDrop (dMeth "need_door" 2 phi_Book_need_door (dVar 0) (dCons (dVar 2) dNil))) (dDrop (dCall 1 phi_need_moment (dCons (dVar 3) dNil)))))
def phi_need_all : Phi := dDef 4 den_need_all
/-- k08 copied_from, 0:book 1:name 2:person 3:moment 4:some 5:place 6:who 7:begin 8:end -/
def den_copied_from : DS := (dSeq (dAsg (dCall 1 phi_stretches (dCons (d2 opIx (dFld "rows" (dVar 0)) (dVar 1)) dNil)) (pNm 4)) (dSeq (dFor (iR2 (dC (.int 1)) (dN opLen (dCons (dVar 4) dNil))) (pNm 5) (dSeq (dAsg (d2 opIx (dVar 4) (dVar 5)) (pTp (psLen 3 (psCons (pNm 6) (psCons (pNm 7) (psCons (pNm 8) psNil)))))) (dIfS (dAnd (dOr (dT (d2 opIs (dVar 6) (dC .non))) (dT (d2 opEq (dVar 6) (dVar 2)))) (dAnd (dT (d2 opLe (dVar 7) (dVar 3))) (dT (d2 opLt (dVar 7) (dVar 8))))) (dRet (dVar 5)) dSkip))) (dRet (dC (.int 0)))))
def phi_copied_from : Phi := dDef 9 den_copied_from
/-- k08 may_hold, 0:book 1:name 2:person 3:moment -/
def den_may_hold : DS := (dSeq (dIfS (dT (d2 opIn (dVar 2) (d2 opIx (dMeth "who" 3 phi_Book_who (dVar 0) (dCons (dVar 1) (dCons (dVar 3) dNil))) (dC (.int 1))))) (dRet (dC (.bl true))) dSkip) (dRet (dAndV (d2 opIx (dFld "plain" (dVar 0)) (dVar 1)) (d2 opGt (dCall 4 phi_copied_from (dCons (dVar 0) (dCons (dVar 1) (dCons (dVar 2) (dCons (dVar 3) dNil))))) (dC (.int 0))))))
def phi_may_hold : Phi := dDef 4 den_may_hold
/-- k08 answer, 0:book 1:person 2:door 3:moment 4:kinds 5:names 6:mine 7:sure 8:name 9:kind -/
def den_answer : DS := (dSeq (dAsg (dMeth "kinds" 3 phi_Book_kinds (dVar 0) (dCons (dVar 2) (dCons (dVar 3) dNil))) (pNm 4)) (dSeq (dAsg (d1 opLRg (dN opLen (dCons (dFld "rows" (dVar 0)) dNil))) (pNm 5)) (dSeq (dAsg (dLc (iSeq' (dVar 5)) (pNm 8) (dT (d2 opEq (d2 opIx (dMeth "who" 3 phi_Book_who (dVar 0) (dCons (dVar 8) (dCons (dVar 3) dNil))) (dC (.int 0))) (dVar 1))) (dVar 8) [8]) (pNm 6)) (dSeq (dAsg (d2 opEq (dLc (iSeq' (dVar 4)) (pNm 9) (dT (d2 opEq (dLc (iSeq' (dVar 6)) (pNm 8) (dT (d2 opIn (dVar 9) (d2 opIx (dFld "opens" (dVar 0)) (dVar 8)))) (dVar 8) [8]) (dN opLst dNil))) (dVar 9) [9]) (dN opLst dNil)) (pNm 7)) (dSeq (dIfS (dT (dVar 7)) (dRet (dC (.str "surely"))) dSkip) (dSeq (dFor (iSeq' (dVar 5)) (pNm 8) (dIfS (dAnd (dT (d2 opNe (dLc (iSeq' (d2 opIx (dFld "opens" (dVar 0)) (dVar 8))) (pNm 9) (dT (d2 opIn (dVar 9) (dVar 4))) (dVar 9) [9]) (dN opLst dNil))) (dT (dCall 4 phi_may_hold (dCons (dVar 0) (dCons (dVar 8) (dCons (dVar 1) (dCons (dVar 3) dNil))))))) (dRet (dC (.str "maybe"))) dSkip)) (dRet (dC (.str "no")))))))))
def phi_answer : Phi := dDef 10 den_answer
/-- k08 could, 0:book 1:person 2:door 3:moment -/
def den_could : DS := (dSeq (dDrop (dCall 4 phi_need_all (dCons (dVar 0) (dCons (dVar 1) (dCons (dVar 2) (dCons (dVar 3) dNil)))))) (dRet (dCall 4 phi_answer (dCons (dVar 0) (dCons (dVar 1) (dCons (dVar 2) (dCons (dVar 3) dNil)))))))
def phi_could : Phi := dDef 4 den_could
/-- k08 openers, 0:book 1:door 2:moment 3:words 4:sure 5:person -/
def den_openers : DS := (dSeq (dDrop (dMeth "need_door" 2 phi_Book_need_door (dVar 0) (dCons (dVar 1) dNil))) (dSeq (dDrop (dCall 1 phi_need_moment (dCons (dVar 2) dNil))) (dSeq (dAsg (dLc (iR1 (dFld "many" (dVar 0))) (pNm 5) dYes (dCall 4 phi_answer (dCons (dVar 0) (dCons (dVar 5) (dCons (dVar 1) (dCons (dVar 2) dNil))))) [5]) (pNm 3)) (dSeq (dAsg (dLc (iR1 (dFld "many" (dVar 0))) (pNm 5) (dT (d2 opEq (d2 opIx (dVar 3) (dVar 5)) (dC (.str "surely")))) (dVar 5) [5]) (pNm 4)) (dRet (dN opTup (dCons (dVar 4) (dCons (dLc (iR1 (dFld "many" (dVar 0))) (pNm 5) (dT (d2 opEq (d2 opIx (dVar 3) (dVar 5)) (dC (.str "maybe")))) (dVar 5) [5]) dNil))))))))
def phi_openers : Phi := dDef 6 den_openers
/-- k08 law, 0:_law_script 1:_law_d 2:_law_far 3:_law_persons 4:_law_keys 5:_law_doors 6:_law_people 7:_law_less 8:_law_more 9:_law_turn 10:_law_moment 11:_law_name 12:_law_sure 13:_law_some 14:_law_other 15:_law_few 16:_law_door 17:_law_person 18:_law_one 19:_law_opens 20:_law_plain 21:_law_rows 22:_law_who 23:_law_kind -/
def den_law : DS := (dSeq (dAsg (dCall 1 phi_l_dice (dCons (dVar 0) dNil)) (pNm 1)) (dSeq (dAsg (d2 opIx (dN opLst (dCons (dC (.int 12)) (dCons (dC (.int 30)) (dCons (dC (.int 999)) dNil)))) (dCall 2 phi_l_next (dCons (dVar 1) (dCons (dC (.int 3)) dNil)))) (pNm 2)) (dSeq (dAsg (dCall 4 phi_l_case (dCons (dVar 1) (dCons (d2 opAdd (dC (.int 1)) (dCall 2 phi_l_next (dCons (dVar 1) (dCons (dC (.int 8)) dNil)))) (dCons (dN opTup (dCons (dC (.int 6)) (dCons (dC (.int 8)) (dCons (dC (.int 4)) dNil)))) (dCons (dVar 2) dNil))))) (pTp (psLen 3 (psCons (pNm 3) (psCons (pNm 4) (psCons (pNm 5) psNil)))))) (dSeq (dAsg (d1 opLRg (dVar 3)) (pNm 6)) (dSeq (dAsg (dCall 1 phi_l_book (dCons (dN opTup (dCons (dVar 3) (dCons (dVar 4) (dCons (dVar 5) dNil)))) dNil)) (pNm 7)) (dSeq (dAsg (dLc (iSeq' (dVar 4)) (pTp (psLen 3 (psCons (pNm 19) (psCons (pNm 20) (psCons (pNm 21) psNil))))) dYes (dN opTup (dCons (dVar 19) (dCons (dVar 20) (dCons (dCall 3 phi_l_narrow (dCons (dVar 1) (dCons (dVar 21) (dCons (dVar 6) dNil)))) dNil)))) [19, 20, 21]) (pNm 4)) (dSeq (dAsg (dCall 1 phi_l_book (dCons (dN opTup (dCons (dVar 3) (dCons (dVar 4) (dCons (dLc (iSeq' (dVar 5)) (pNm 21) dYes (dCall 3 phi_l_narrow (dCons (dVar 1) (dCons (dVar 21) (dCons (dN opLst (dCons (dC (.int 0)) dNil)) dNil)))) [21]) dNil)))) dNil)) (pNm 8)) (dSeq (dFor (iR1 (dC (.int 12))) (pNm 9) (dSeq (dAsg (dN opMin (dCons (dC (.int 999)) (dCons (dCall 2 phi_l_next (dCons (dVar 1) (dCons (d2 opAdd (dVar 2) (dC (.int 3))) dNil))) dNil))) (pNm 10)) (dSeq (dFor (iR1 (dN opLen (dCons (dVar 4) dNil))) (pNm 11) (dSeq (dAsg (dMeth "holders" 3 phi_Book_holders (dVar 7) (dCons (dVar 11) (dCons (dVar 10) dNil))) (pTp (psLen 2 (psCons (pNm 12) (psCons (pNm 13) psNil))))) (dSeq (dAsg (dMeth "holders" 3 phi_Book_holders (dVar 8) (dCons (dVar 11) (dCons (dVar 10) dNil))) (pTp (psLen 2 (psCons (pNm 14) (psCons (pNm 15) psNil))))) (dIfS (dOr (dT (d2 opNe (dLc (iSeq' (dVar 15)) (pNm 22) (dT (d2 opNotIn (dVar 22) (dVar 13))) (dVar 22) [22]) (dN opLst dNil))) (dAnd (dT (d2 opIsNot (dVar 12) (dC .non))) (dT (d2 opNe (dVar 14) (dVar 12))))) (dRet (dC (.bl false))) dSkip)))) (dSeq (dAsg (dCall 2 phi_l_next (dCons (dVar 1) (dCons (dN opLen (dCons (dVar 5) dNil)) dNil))) (pNm 16)) (dSeq (dIfS (dT (d2 opNe (dLc (iSeq' (dMeth "locks" 3 phi_Book_locks (dVar 8) (dCons (dVar 16) (dCons (dVar 10) dNil)))) (pNm 23) (dT (d2 opNotIn (dVar 23) (dMeth "locks" 3 phi_Book_locks (dVar 7) (dCons (dVar 16) (dCons (dVar 10) dNil))))) (dVar 23) [23]) (dN opLst dNil))) (dRet (dC (.bl false))) dSkip) (dSeq (dFor (iR1 (dVar 3)) (pNm 17) (dSeq (dPar 18 14 (dCall 4 phi_could (dCons (dVar 7) (dCons (dVar 17) (dCons (dVar 16) (dCons (dVar 10) dNil))))) (dCall 4 phi_could (dCons (dVar 8) (dCons (dVar 17) (dCons (dVar 16) (dCons (dVar 10) dNil)))))) (dIfS (dOr (dAnd (dT (d2 opEq (dVar 18) (dC (.str "surely")))) (dT (d2 opNe (dVar 14) (dC (.str "surely"))))) (dAnd (dT (d2 opEq (dVar 18) (dC (.str "no")))) (dT (d2 opNe (dVar 14) (dC (.str "no")))))) (dRet (dC (.bl false))) dSkip))) (dSeq (dAsg (dCall 3 phi_openers (dCons (dVar 7) (dCons (dVar 16) (dCons (dVar 10) dNil)))) (pTp (psLen 2 (psCons (pNm 12) (psCons (pNm 13) psNil))))) (dIfS (dT (d2 opNe (dLc (iSeq' (dVar 12)) (pNm 22) (dT (d2 opNotIn (dVar 22) (d2 opIx (dCall 3 phi_openers (dCons (dVar 8) (dCons (dVar 16) (dCons (dVar 10) dNil)))) (dC (.int 0))))) (dVar 22) [22]) (dN opLst dNil))) (dRet (dC (.bl false))) dSkip)))))))) (dRet (dC (.bl true)))))))))))
def phi_law : Phi := dDef 24 den_law
/-- k03 _law_may own , 0:_law_rows 1:_law_moment 2:_law_found 3:_law_k 4:_law_soon 5:_law_end 6:_law_row_here -/
def den_l_may : DS := (dSeq (dOwn 2 dNil) (dSeq (dFor (iR1 (d2 opAdd (dN opLen (dCons (dVar 0) dNil)) (dC (.int 1)))) (pNm 3) (dSeq (dAsg (dN opMax (dCons (d2 opAdd (dN opLst (dCons (dC (.int 0)) dNil)) (dLc (iSeq' (dSl opSl (dVar 0) doNo (doSo (dVar 3)))) (pNm 6) dYes (d2 opIx (dVar 6) (dC (.int 1))) [6])) dNil)) (pNm 4)) (dSeq (dAsg (dN opMin (dCons (d2 opAdd (dN opLst (dCons (dC (.int 1000)) dNil)) (dLc (iSeq' (dSl opSl (dVar 0) (doSo (dVar 3)) doNo)) (pNm 6) dYes (d2 opIx (dVar 6) (dC (.int 2))) [6])) dNil)) (pNm 5)) (dIfS (dT (dChain opLe opLt (dVar 4) (dVar 1) (dVar 5))) (dApp 2 (dIf (dT (d2 opGt (dVar 3) (dC (.int 0)))) (d2 opIx (d2 opIx (dVar 0) (d2 opSub (dVar 3) (dC (.int 1)))) (dC (.int 0))) (d1 opNeg (dC (.int 1))))) dSkip)))) (dSeq (dFz 2) (dRet (dVar 2)))))
def phi_l_may : Phi := dDef 7 den_l_may
/-- k03 Book.who, 0:self 1:name 2:moment 3:rows 4:some 5:every 6:alone 7:place 8:person -/
def den_Book_who_v2 : DS := (dSeq (dAsg (d2 opIx (dFld "rows" (dVar 0)) (dVar 1)) (pNm 3)) (dSeq (dAsg (dLc (iSeq' (dCall 2 phi_possible (dCons (dVar 3) (dCons (dVar 2) dNil)))) (pNm 7) dYes (dIf (dT (d2 opGt (dVar 7) (dC (.int 0)))) (d2 opIx (d2 opIx (dVar 3) (d2 opSub (dVar 7) (dC (.int 1)))) (dC (.int 0))) (d1 opNeg (dC (.int 1)))) [7]) (pNm 4)) (dSeq (dAsg (dLcH (iR1 (dFld "many" (dVar 0))) (pNm 8) (dOr (dT (d2 opIn (dVar 8) (dVar 4))) (dT (d2 opIn (dC .non) (dVar 4)))) (dVar 8) [8]) (pNm 5)) (dSeq (dAsg (dAndV (d2 opEq (d1 opLSet (dVar 4)) (dC (.int 1))) (dAndV (d2 opIsNot (d2 opIx (dVar 4) (dC (.int 0))) (dC .non)) (d2 opGe (d2 opIx (dVar 4) (dC (.int 0))) (dC (.int 0))))) (pNm 6)) (dRet (dN opTup (dCons (dIf (dT (dVar 6)) (d2 opIx (dVar 4) (dC (.int 0))) (dC .non)) (dCons (dVar 5) dNil))))))))
def phi_Book_who_v2 : Phi := dDef 9 den_Book_who_v2
/-- k03 Book.holders, 0:self 1:name 2:moment -/
def den_Book_holders_v2 : DS := (dSeq (dDrop (dMeth "need_key" 2 phi_Book_need_key (dVar 0) (dCons (dVar 1) dNil))) (dSeq (dDrop (dCall 1 phi_need_moment (dCons (dVar 2) dNil))) (dRet (dMeth "who" 3 phi_Book_who_v2 (dVar 0) (dCons (dVar 1) (dCons (dVar 2) dNil))))))
def phi_Book_holders_v2 : Phi := dDef 3 den_Book_holders_v2
/-- k03 _law_like, 0:_law_found 1:_law_due 2:_law_k 3:_law_key -/
def den_l_like (φ : Phi) : DS := (dSeq (dIfS (dT (d1 (opIsi .bl) (dVar 1))) (dRet (dAndV (d1 (opIsi .bl) (dVar 0)) (d2 opEq (dVar 0) (dVar 1)))) dSkip) (dSeq (dIfS (dT (d1 (opIsi .str) (dVar 1))) (dRet (dAndV (d1 (opIsi .str) (dVar 0)) (d2 opEq (dVar 0) (dVar 1)))) dSkip) (dSeq (dIfS (dT (d1 (opIsi .int) (dVar 1))) (dRet (dAndV (d1 (opIsi .int) (dVar 0)) (dAndV (dNotV (d1 (opIsi .bl) (dVar 0))) (d2 opEq (dVar 0) (dVar 1))))) dSkip) (dSeq (dIfS (dT (d2 opIs (dVar 1) (dC .non))) (dRet (d2 opIs (dVar 0) (dC .non))) dSkip) (dSeq (dIfS (dT (d1 (opIsi .dict) (dVar 1))) (dSeq (dIfS (dOr (dNot (dT (d1 (opIsi .dict) (dVar 0)))) (dT (d2 opNe (dN opLen (dCons (dVar 0) dNil)) (dN opLen (dCons (dVar 1) dNil))))) (dRet (dC (.bl false))) dSkip) (dRet (d2 opEq (dLc (iSeq' (dVar 1)) (pNm 3) (dOr (dT (d2 opNotIn (dVar 3) (dVar 0))) (dNot (dT (dCall 2 φ (dCons (d2 opIx (dVar 0) (dVar 3)) (dCons (d2 opIx (dVar 1) (dVar 3)) dNil)))))) (dVar 3) [3]) (dN opLst dNil)))) dSkip) (dSeq (dIfS (dOr (dT (d2 opNe (d1 (opIsi .tup) (dVar 1)) (d1 (opIsi .tup) (dVar 0)))) (dT (d2 opNe (d1 (opIsi .lst) (dVar 1)) (d1 (opIsi .lst) (dVar 0))))) (dRet (dC (.bl false))) dSkip) (dSeq (dIfS (dT (d2 opNe (dN opLen (dCons (dVar 0) dNil)) (dN opLen (dCons (dVar 1) dNil)))) (dRet (dC (.bl false))) dSkip) (dSeq (dFor (iR1 (dN opLen (dCons (dVar 1) dNil))) (pNm 2) (dIfS (dNot (dT (dCall 2 φ (dCons (d2 opIx (dVar 0) (dVar 2)) (dCons (d2 opIx (dVar 1) (dVar 2)) dNil))))) (dRet (dC (.bl false))) dSkip)) (dRet (dC (.bl true)))))))))))
def phi_l_like : Nat → Phi
  | 0 => dDef 4 dDead
  | n + 1 => dDef 4 (den_l_like (phi_l_like n))
/-- k03 Book.kinds, 0:self 1:door 2:moment 3:rows 4:some 5:place -/
def den_Book_kinds_v2 : DS := (dSeq (dAsg (d2 opIx (dFld "doors" (dVar 0)) (dVar 1)) (pNm 3)) (dSeq (dAsg (dLc (iSeq' (dCall 2 phi_possible (dCons (dVar 3) (dCons (dVar 2) dNil)))) (pNm 5) dYes (dIf (dT (d2 opGt (dVar 5) (dC (.int 0)))) (d2 opIx (d2 opIx (dVar 3) (d2 opSub (dVar 5) (dC (.int 1)))) (dC (.int 0))) (d1 opNeg (dC (.int 1)))) [5]) (pNm 4)) (dRet (dSSetH (dVar 4)))))
def phi_Book_kinds_v2 : Phi := dDef 6 den_Book_kinds_v2
/-- k03 Book.locks, 0:self 1:door 2:moment -/
def den_Book_locks_v2 : DS := (dSeq (dDrop (dMeth "need_door" 2 phi_Book_need_door (dVar 0) (dCons (dVar 1) dNil))) (dSeq (dDrop (dCall 1 phi_need_moment (dCons (dVar 2) dNil))) (dRet (dMeth "kinds" 3 phi_Book_kinds_v2 (dVar 0) (dCons (dVar 1) (dCons (dVar 2) dNil))))))
def phi_Book_locks_v2 : Phi := dDef 3 den_Book_locks_v2
/-- k03 law, 0:_law_script 1:_law_d 2:_law_case_here 3:_law_persons 4:_law_keys 5:_law_doors 6:_law_book_here 7:_law_moments 8:_law_opens 9:_law_plain 10:_law_rows 11:_law_who 12:_law_early 13:_law_late 14:_law_turn 15:_law_moment 16:_law_name 17:_law_some 18:_law_every 19:_law_sure 20:_law_again 21:_law_found 22:_law_door 23:_law_k 24:_law_person -/
def den_law_v2 : DS := (dSeq (dAsg (dCall 1 phi_l_dice (dCons (dVar 0) dNil)) (pNm 1)) (dSeq (dAsg (dCall 4 phi_l_case (dCons (dVar 1) (dCons (d2 opAdd (dC (.int 1)) (dCall 2 phi_l_next (dCons (dVar 1) (dCons (dC (.int 8)) dNil)))) (dCons (dN opTup (dCons (dC (.int 6)) (dCons (dC (.int 8)) (dCons (dC (.int 4)) dNil)))) (dCons (d2 opIx (dN opLst (dCons (dC (.int 12)) (dCons (dC (.int 999)) dNil))) (dCall 2 phi_l_next (dCons (dVar 1) (dCons (dC (.int 2)) dNil)))) dNil))))) (pNm 2)) (dSeq (dAsg (dVar 2) (pTp (psLen 3 (psCons (pNm 3) (psCons (pNm 4) (psCons (pNm 5) psNil)))))) (dSeq (dAsg (dCall 1 phi_l_book (dCons (dVar 2) dNil)) (pNm 6)) (dSeq (dAsg (d2 opAdd (dN opLst (dCons (dC (.int 0)) (dCons (dC (.int 999)) dNil))) (dLc (iR1 (dC (.int 4))) (pNm 23) dYes (dCall 2 phi_l_next (dCons (dVar 1) (dCons (dC (.int 1000)) dNil))) [23])) (pNm 7)) (dSeq (dFor (iSeq' (dVar 4)) (pTp (psLen 3 (psCons (pNm 8) (psCons (pNm 9) (psCons (pNm 10) psNil))))) (dFor (iSeq' (dVar 10)) (pTp (psLen 3 (psCons (pNm 11) (psCons (pNm 12) (psCons (pNm 13) psNil))))) (dAsg (d2 opAdd (dVar 7) (dN opLst (dCons (dVar 12) (dCons (dVar 13) (dCons (dN opMax (dCons (dC (.int 0)) (dCons (d2 opSub (dVar 12) (dC (.int 1))) dNil))) (dCons (dN opMin (dCons (dC (.int 999)) (dCons (d2 opAdd (dVar 13) (dC (.int 1))) dNil))) dNil)))))) (pNm 7)))) (dSeq (dFor (iR1 (dC (.int 30))) (pNm 14) (dSeq (dAsg (d2 opIx (dVar 7) (dCall 2 phi_l_next (dCons (dVar 1) (dCons (dN opLen (dCons (dVar 7) dNil)) dNil)))) (pNm 15)) (dSeq (dFor (iR1 (dN opLen (dCons (dVar 4) dNil))) (pNm 16) (dSeq (dAsg (dCall 2 phi_l_may (dCons (d2 opIx (d2 opIx (dVar 4) (dVar 16)) (dC (.int 2))) (dCons (dVar 15) dNil))) (pNm 17)) (dSeq (dAsg (dLc (iR1 (dVar 3)) (pNm 24) (dOr (dT (d2 opIn (dVar 24) (dVar 17))) (dT (d2 opIn (dC .non) (dVar 17)))) (dVar 24) [24]) (pNm 18)) (dSeq (dAsg (dIf (dAnd (dT (d2 opEq (d1 opLSet (dVar 17)) (dC (.int 1)))) (dT (d2 opIn (d2 opIx (dVar 17) (dC (.int 0))) (dVar 18)))) (d2 opIx (dVar 17) (dC (.int 0))) (dC .non)) (pNm 19)) (dFor (iR1 (dC (.int 2))) (pNm 20) (dSeq (dAsg (dMeth "holders" 3 phi_Book_holders_v2 (dVar 6) (dCons (dVar 16) (dCons (dVar 15) dNil))) (pNm 21)) (dSeq (dIfS (dNot (dT (dCall 2 (phi_l_like 5) (dCons (dVar 21) (dCons (dN opTup (dCons (dVar 19) (dCons (dVar 18) dNil))) dNil))))) (dRet (dC (.bl false))) dSkip) (dDrop (dBM mAppend (d2 opIx (dVar 21) (dC (.int 1))) (dCons (d1 opNeg (dC (.int 3))) dNil)))))))))) (dFor (iR1 (dN opLen (dCons (dVar 5) dNil))) (pNm 22) (dSeq (dAsg (dMeth "locks" 3 phi_Book_locks_v2 (dVar 6) (dCons (dVar 22) (dCons (dVar 15) dNil))) (pNm 21)) (dSeq (dIfS (dNot (dT (dCall 2 (phi_l_like 5) (dCons (dVar 21) (dCons (d1 opSSet (dCall 2 phi_l_may (dCons (d2 opIx (dVar 5) (dVar 22)) (dCons (dVar 15) dNil)))) dNil))))) (dRet (dC (.bl false))) dSkip) (dDrop (dBM0 mClear (dVar 21))))))))) (dRet (dC (.bl true))))))))))
def phi_law_v2 : Phi := dDef 25 den_law_v2
/-- k09 _law_had, 0:_law_rows 1:_law_person 2:_law_moment 3:_law_k 4:_law_soon 5:_law_end 6:_law_row_here -/
def den_l_had : DS := (dSeq (dFor (iR2 (dC (.int 1)) (d2 opAdd (dN opLen (dCons (dVar 0) dNil)) (dC (.int 1)))) (pNm 3) (dSeq (dAsg (dN opMax (dCons (dLc (iSeq' (dSl opSl (dVar 0) doNo (doSo (dVar 3)))) (pNm 6) dYes (d2 opIx (dVar 6) (dC (.int 1))) [6]) dNil)) (pNm 4)) (dSeq (dAsg (dN opMin (dCons (d2 opAdd (dN opLst (dCons (dC (.int 1000)) dNil)) (dLc (iSeq' (dSl opSl (dVar 0) (doSo (dVar 3)) doNo)) (pNm 6) dYes (d2 opIx (dVar 6) (dC (.int 2))) [6])) dNil)) (pNm 5)) (dIfS (dAnd (dT (d2 opIn (d2 opIx (d2 opIx (dVar 0) (d2 opSub (dVar 3) (dC (.int 1)))) (dC (.int 0))) (dN opTup (dCons (dVar 1) (dCons (dC .non) dNil))))) (dAnd (dT (d2 opLe (dVar 4) (dVar 2))) (dT (d2 opLt (dVar 4) (dVar 5))))) (dRet (dC (.bl true))) dSkip)))) (dRet (dC (.bl false))))
def phi_l_had : Phi := dDef 7 den_l_had
/-- k09 _law_could, 0:_law_case_here 1:_law_person 2:_law_door 3:_law_moment 4:_law_kinds 5:_law_left 6:_law_word 7:_law_opens 8:_law_plain 9:_law_rows 10:_law_who 11:_law_may_here 12:_law_one 13:_law_kind -/
def den_l_could : DS := (dSeq (dAsg (dCall 2 phi_l_may (dCons (d2 opIx (d2 opIx (dVar 0) (dC (.int 2))) (dVar 2)) (dCons (dVar 3) dNil))) (pNm 4)) (dSeq (dAsg (dN opList (dCons (dVar 4) dNil)) (pNm 5)) (dSeq (dAsg (dC (.str "no")) (pNm 6)) (dSeq (dFor (iSeq' (d2 opIx (dVar 0) (dC (.int 1)))) (pTp (psLen 3 (psCons (pNm 7) (psCons (pNm 8) (psCons (pNm 9) psNil))))) (dSeq (dAsg (dCall 2 phi_l_may (dCons (dVar 9) (dCons (dVar 3) dNil))) (pNm 10)) (dSeq (dIfS (dT (d2 opEq (dLc (iSeq' (dVar 10)) (pNm 12) (dT (d2 opNe (dVar 12) (dVar 1))) (dVar 12) [12]) (dN opLst dNil))) (dAsg (dLc (iSeq' (dVar 5)) (pNm 13) (dT (d2 opNotIn (dVar 13) (dVar 7))) (dVar 13) [13]) (pNm 5)) dSkip) (dSeq (dAsg (dOrV (d2 opIn (dVar 1) (dVar 10)) (dOrV (d2 opIn (dC .non) (dVar 10)) (dAndV (dVar 8) (dCall 3 phi_l_had (dCons (dVar 9) (dCons (dVar 1) (dCons (dVar 3) dNil))))))) (pNm 11)) (dIfS (dAnd (dT (dVar 11)) (dT (d2 opNe (dLc (iSeq' (dVar 4)) (pNm 13) (dT (d2 opIn (dVar 13) (dVar 7))) (dVar 13) [13]) (dN opLst dNil)))) (dAsg (dC (.str "maybe")) (pNm 6)) dSkip))))) (dRet (dIf (dT (d2 opEq (dVar 5) (dN opLst dNil))) (dC (.str "surely")) (dVar 6)))))))
def phi_l_could : Phi := dDef 14 den_l_could
/-- k09 openers, 0:book 1:door 2:moment 3:words 4:sure 5:person -/
def den_openers_v2 : DS := (dSeq (dDrop (dMeth "need_door" 2 phi_Book_need_door (dVar 0) (dCons (dVar 1) dNil))) (dSeq (dDrop (dCall 1 phi_need_moment (dCons (dVar 2) dNil))) (dSeq (dAsg (dLc (iR1 (dFld "many" (dVar 0))) (pNm 5) dYes (dCall 4 phi_answer (dCons (dVar 0) (dCons (dVar 5) (dCons (dVar 1) (dCons (dVar 2) dNil))))) [5]) (pNm 3)) (dSeq (dAsg (dLcH (iR1 (dFld "many" (dVar 0))) (pNm 5) (dT (d2 opEq (d2 opIx (dVar 3) (dVar 5)) (dC (.str "surely")))) (dVar 5) [5]) (pNm 4)) (dRet (dN opTup (dCons (dVar 4) (dCons (dLcH (iR1 (dFld "many" (dVar 0))) (pNm 5) (dT (d2 opEq (d2 opIx (dVar 3) (dVar 5)) (dC (.str "maybe")))) (dVar 5) [5]) dNil))))))))
def phi_openers_v2 : Phi := dDef 6 den_openers_v2
/-- k09 _law_first own , 0:_law_case_here 1:_law_person 2:_law_door 3:_law_some 4:_law_row_here 5:_law_opens 6:_law_plain 7:_law_rows 8:_law_good 9:_law_moment -/
def den_l_first : DS := (dSeq (dOwn 3 (dCons (dC (.int 0)) dNil)) (dSeq (dFor (iSeq' (d2 opIx (d2 opIx (dVar 0) (dC (.int 2))) (dVar 2))) (pNm 4) (dApp 3 (d2 opIx (dVar 4) (dC (.int 1))))) (dSeq (dFz 3) (dSeq (dFor (iSeq' (d2 opIx (dVar 0) (dC (.int 1)))) (pTp (psLen 3 (psCons (pNm 5) (psCons (pNm 6) (psCons (pNm 7) psNil))))) (dAsg (d2 opAdd (dVar 3) (dLc (iSeq' (dVar 7)) (pNm 4) dYes (d2 opIx (dVar 4) (dC (.int 1))) [4])) (pNm 3))) (dSeq (dAsg (dLc (iSeq' (d1 opSSet (dVar 3))) (pNm 9) (dT (d2 opNe (dCall 4 phi_l_could (dCons (dVar 0) (dCons (dVar 1) (dCons (dVar 2) (dCons (dVar 9) dNil))))) (dC (.str "no")))) (dVar 9) [9]) (pNm 8)) (dRet (dIf (dT (d2 opNe (dVar 8) (dN opLst dNil))) (d2 opIx (dVar 8) (dC (.int 0))) (dC .non))))))))
def phi_l_first : Phi := dDef 10 den_l_first
/-- k09 first, 0:book 1:person 2:door 3:moment -/
def den_first : DS := (dSeq (dDrop (dCall 4 phi_need_all (dCons (dVar 0) (dCons (dVar 1) (dCons (dVar 2) (dCons (dC (.int 0)) dNil)))))) (dSeq (dFor (iR1 (d2 opAdd (dC (.int 999)) (dC (.int 1)))) (pNm 3) (dIfS (dT (d2 opNe (dCall 4 phi_answer (dCons (dVar 0) (dCons (dVar 1) (dCons (dVar 2) (dCons (dVar 3) dNil))))) (dC (.str "no")))) (dRet (dVar 3)) dSkip)) (dRet (dC .non))))
def phi_first : Phi := dDef 4 den_first
/-- k09 law own , 0:_law_script 1:_law_d 2:_law_far 3:_law_case_here 4:_law_book_here 5:_law_turn 6:_law_door 7:_law_moment 8:_law_words 9:_law_due 10:_law_word 11:_law_again 12:_law_found 13:_law_person -/
def den_law_v3 : DS := (dSeq (dAsg (dCall 1 phi_l_dice (dCons (dVar 0) dNil)) (pNm 1)) (dSeq (dAsg (d2 opIx (dN opLst (dCons (dC (.int 12)) (dCons (dC (.int 30)) (dCons (dC (.int 999)) dNil)))) (dCall 2 phi_l_next (dCons (dVar 1) (dCons (dC (.int 3)) dNil)))) (pNm 2)) (dSeq (dAsg (dCall 4 phi_l_case (dCons (dVar 1) (dCons (d2 opAdd (dC (.int 1)) (dCall 2 phi_l_next (dCons (dVar 1) (dCons (dC (.int 8)) dNil)))) (dCons (dN opTup (dCons (dC (.int 6)) (dCons (dC (.int 8)) (dCons (dC (.int 4)) dNil)))) (dCons (dVar 2) dNil))))) (pNm 3)) (dSeq (dAsg (dCall 1 phi_l_book (dCons (dVar 3) dNil)) (pNm 4)) (dSeq (dFor (iR1 (dC (.int 12))) (pNm 5) (dSeq (dAsg (dCall 2 phi_l_next (dCons (dVar 1) (dCons (dN opLen (dCons (d2 opIx (dVar 3) (dC (.int 2))) dNil)) dNil))) (pNm 6)) (dSeq (dAsg (dN opMin (dCons (dC (.int 999)) (dCons (dCall 2 phi_l_next (dCons (dVar 1) (dCons (d2 opAdd (dVar 2) (dC (.int 3))) dNil))) dNil))) (pNm 7)) (dSeq (dAsg (dLc (iR1 (d2 opIx (dVar 3) (dC (.int 0)))) (pNm 13) dYes (dCall 4 phi_l_could (dCons (dVar 3) (dCons (dVar 13) (dCons (dVar 6) (dCons (dVar 7) dNil))))) [13]) (pNm 8)) (dSeq (dIfS (dNot (dT (dCall 2 (phi_l_like 5) (dCons (dLc (iR1 (d2 opIx (dVar 3) (dC (.int 0)))) (pNm 13) dYes (dCall 4 phi_could (dCons (dVar 4) (dCons (dVar 13) (dCons (dVar 6) (dCons (dVar 7) dNil))))) [13]) (dCons (dVar 8) dNil))))) (dRet (dC (.bl false))) dSkip) (dSeq (dOwn 9 dNil) (dSeq (dFor (iSeq' (dN opLst (dCons (dC (.str "surely")) (dCons (dC (.str "maybe")) dNil)))) (pNm 10) (dApp 9 (dLc (iR1 (d2 opIx (dVar 3) (dC (.int 0)))) (pNm 13) (dT (d2 opEq (d2 opIx (dVar 8) (dVar 13)) (dVar 10))) (dVar 13) [13]))) (dSeq (dFz 9) (dFor (iR1 (dC (.int 2))) (pNm 11) (dSeq (dAsg (dCall 3 phi_openers_v2 (dCons (dVar 4) (dCons (dVar 6) (dCons (dVar 7) dNil)))) (pNm 12)) (dSeq (dIfS (dNot (dT (dCall 2 (phi_l_like 5) (dCons (dVar 12) (dCons (dN opTup (dCons (d2 opIx (dVar 9) (dC (.int 0))) (dCons (d2 opIx (dVar 9) (dC (.int 1))) dNil))) dNil))))) (dRet (dC (.bl false))) dSkip) (dSeq (dDrop (dBM mAppend (d2 opIx (dVar 12) (dC (.int 0))) (dCons (d1 opNeg (dC (.int 1))) dNil))) (dDrop (dBM mAppend (d2 opIx (dVar 12) (dC (.int 1))) (dCons (d1 opNeg (dC (.int 1))) dNil))))))))))))))) (dSeq (dFor (iR1 (dC (.int 2))) (pNm 5) (dSeq (dAsg (dN opTup (dCons (dCall 2 phi_l_next (dCons (dVar 1) (dCons (d2 opIx (dVar 3) (dC (.int 0))) dNil))) (dCons (dCall 2 phi_l_next (dCons (dVar 1) (dCons (dN opLen (dCons (d2 opIx (dVar 3) (dC (.int 2))) dNil)) dNil))) dNil))) (pTp (psLen 2 (psCons (pNm 13) (psCons (pNm 6) psNil))))) (dIfS (dNot (dT (dCall 2 (phi_l_like 5) (dCons (dCall 3 phi_first (dCons (dVar 4) (dCons (dVar 13) (dCons (dVar 6) dNil)))) (dCons (dCall 3 phi_l_first (dCons (dVar 3) (dCons (dVar 13) (dCons (dVar 6) dNil)))) dNil))))) (dRet (dC (.bl false))) dSkip))) (dRet (dC (.bl true)))))))))
def phi_law_v3 : Phi := dDef 14 den_law_v3
/-- k04 _law_worlds own , 0:_law_rows 1:_law_found 2:_law_what 3:_law_early 4:_law_late 5:_law_longer 6:_law_times 7:_law_least 8:_law_time -/
def den_l_worlds : DS := (dSeq (dAsg (dN opLst (dCons (dN opLst dNil) dNil)) (pNm 1)) (dSeq (dFor (iSeq' (dVar 0)) (pTp (psLen 3 (psCons (pNm 2) (psCons (pNm 3) (psCons (pNm 4) psNil))))) (dSeq (dOwn 5 dNil) (dSeq (dFor (iSeq' (dVar 1)) (pNm 6) (dSeq (dAsg (dN opMax (dCons (d2 opAdd (dN opLst (dCons (dVar 3) dNil)) (dSl opSl (dVar 6) (doSo (d1 opNeg (dC (.int 1)))) doNo)) dNil)) (pNm 7)) (dExt 5 (dLc (iR2 (dVar 7) (d2 opAdd (dVar 4) (dC (.int 1)))) (pNm 8) dYes (d2 opAdd (dVar 6) (dN opLst (dCons (dVar 8) dNil))) [8])))) (dSeq (dFz 5) (dAsg (dVar 5) (pNm 1)))))) (dRet (dVar 1))))
def phi_l_worlds : Phi := dDef 9 den_l_worlds
/-- k04 _law_at, 0:_law_rows 1:_law_times 2:_law_moment 3:_law_found 4:_law_k -/
def den_l_at : DS := (dSeq (dAsg (d1 opNeg (dC (.int 1))) (pNm 3)) (dSeq (dFor (iR1 (dN opLen (dCons (dVar 0) dNil))) (pNm 4) (dIfS (dT (d2 opLe (d2 opIx (dVar 1) (dVar 4)) (dVar 2))) (dAsg (d2 opIx (d2 opIx (dVar 0) (dVar 4)) (dC (.int 0))) (pNm 3)) dSkip)) (dRet (dVar 3))))
def phi_l_at : Phi := dDef 5 den_l_at
/-- k04 law, 0:_law_script 1:_law_d 2:_law_persons 3:_law_case_here 4:_law_book_here 5:_law_name 6:_law_rows 7:_law_worlds_here 8:_law_moment 9:_law_some 10:_law_every 11:_law_sure 12:_law_door 13:_law_times 14:_law_person 15:_law_who -/
def den_law_v4 : DS := (dSeq (dAsg (dCall 1 phi_l_dice (dCons (dVar 0) dNil)) (pNm 1)) (dSeq (dAsg (d2 opAdd (dC (.int 1)) (dCall 2 phi_l_next (dCons (dVar 1) (dCons (dC (.int 4)) dNil)))) (pNm 2)) (dSeq (dAsg (dCall 4 phi_l_case (dCons (dVar 1) (dCons (dVar 2) (dCons (dN opTup (dCons (dC (.int 3)) (dCons (dC (.int 4)) (dCons (dC (.int 2)) dNil)))) (dCons (d2 opAdd (dC (.int 3)) (dCall 2 phi_l_next (dCons (dVar 1) (dCons (dC (.int 5)) dNil)))) dNil))))) (pNm 3)) (dSeq (dAsg (dCall 1 phi_l_book (dCons (dVar 3) dNil)) (pNm 4)) (dSeq (dFor (iR1 (dN opLen (dCons (d2 opIx (dVar 3) (dC (.int 1))) dNil))) (pNm 5) (dSeq (dAsg (d2 opIx (d2 opIx (d2 opIx (dVar 3) (dC (.int 1))) (dVar 5)) (dC (.int 2))) (pNm 6)) (dSeq (dAsg (dCall 1 phi_l_worlds (dCons (dVar 6) dNil)) (pNm 7)) (dFor (iR1 (dC (.int 9))) (pNm 8) (dSeq (dAsg (dLc (iSeq' (dVar 7)) (pNm 13) dYes (dCall 3 phi_l_at (dCons (dVar 6) (dCons (dVar 13) (dCons (dVar 8) dNil)))) [13]) (pNm 9)) (dSeq (dAsg (dLc (iR1 (dVar 2)) (pNm 14) (dOr (dT (d2 opIn (dVar 14) (dVar 9))) (dT (d2 opIn (dC .non) (dVar 9)))) (dVar 14) [14]) (pNm 10)) (dSeq (dAsg (dLc (iR1 (dVar 2)) (pNm 14) (dT (d2 opEq (dLc (iSeq' (dVar 9)) (pNm 15) (dT (d2 opNe (dVar 15) (dVar 14))) (dVar 15) [15]) (dN opLst dNil))) (dVar 14) [14]) (pNm 11)) (dIfS (dNot (dT (dCall 2 (phi_l_like 5) (dCons (dMeth "holders" 3 phi_Book_holders (dVar 4) (dCons (dVar 5) (dCons (dVar 8) dNil))) (dCons (dN opTup (dCons (d2 opIx (d2 opAdd (dVar 11) (dN opLst (dCons (dC .non) dNil))) (dC (.int 0))) (dCons (dVar 10) dNil))) dNil))))) (dRet (dC (.bl false))) dSkip)))))))) (dSeq (dFor (iR1 (dN opLen (dCons (d2 opIx (dVar 3) (dC (.int 2))) dNil))) (pNm 12) (dSeq (dAsg (d2 opIx (d2 opIx (dVar 3) (dC (.int 2))) (dVar 12)) (pNm 6)) (dSeq (dAsg (dCall 1 phi_l_worlds (dCons (dVar 6) dNil)) (pNm 7)) (dFor (iR1 (dC (.int 9))) (pNm 8) (dSeq (dAsg (d1 opSSet (dLc (iSeq' (dVar 7)) (pNm 13) dYes (dCall 3 phi_l_at (dCons (dVar 6) (dCons (dVar 13) (dCons (dVar 8) dNil)))) [13])) (pNm 9)) (dIfS (dNot (dT (dCall 2 (phi_l_like 5) (dCons (dMeth "locks" 3 phi_Book_locks (dVar 4) (dCons (dVar 12) (dCons (dVar 8) dNil))) (dCons (dVar 9) dNil))))) (dRet (dC (.bl false))) dSkip)))))) (dRet (dC (.bl true)))))))))
def phi_law_v4 : Phi := dDef 16 den_law_v4
/-- k06 world, 0:rows 1:place -/
def den_world : DS := (dRet (dAddH (dSl opSl (dCall 1 phi_earliest (dCons (dVar 0) dNil)) doNo (doSo (dVar 1))) (dSl opSl (dCall 1 phi_latest (dCons (dVar 0) dNil)) (doSo (dVar 1)) doNo)))
def phi_world : Phi := dDef 2 den_world
/-- k06 lock_world, 0:book 1:door 2:moment 3:kind 4:rows 5:place -/
def den_lock_world : DS := (dSeq (dAsg (d2 opIx (dFld "doors" (dVar 0)) (dVar 1)) (pNm 4)) (dSeq (dFor (iSeq' (dCall 2 phi_possible (dCons (dVar 4) (dCons (dVar 2) dNil)))) (pNm 5) (dIfS (dT (d2 opEq (dIf (dT (d2 opGt (dVar 5) (dC (.int 0)))) (d2 opIx (d2 opIx (dVar 4) (d2 opSub (dVar 5) (dC (.int 1)))) (dC (.int 0))) (d1 opNeg (dC (.int 1)))) (dVar 3))) (dRet (dCall 2 phi_world (dCons (dVar 4) (dCons (dVar 5) dNil)))) dSkip)) (dRet (dC .non))))
def phi_lock_world : Phi := dDef 6 den_lock_world
/-- k06 held_world, 0:book 1:name 2:person 3:moment 4:rows 5:place -/
def den_held_world : DS := (dSeq (dAsg (d2 opIx (dFld "rows" (dVar 0)) (dVar 1)) (pNm 4)) (dSeq (dFor (iSeq' (dCall 2 phi_possible (dCons (dVar 4) (dCons (dVar 3) dNil)))) (pNm 5) (dIfS (dAnd (dT (d2 opGt (dVar 5) (dC (.int 0)))) (dT (d2 opIn (d2 opIx (d2 opIx (dVar 4) (d2 opSub (dVar 5) (dC (.int 1)))) (dC (.int 0))) (dN opTup (dCons (dC .non) (dCons (dVar 2) dNil)))))) (dRet (dN opTup (dCons (dCall 2 phi_world (dCons (dVar 4) (dCons (dVar 5) dNil))) (dCons (dVar 3) dNil)))) dSkip)) (dSeq (dAsg (dIf (dT (d2 opIx (dFld "plain" (dVar 0)) (dVar 1))) (dCall 4 phi_copied_from (dCons (dVar 0) (dCons (dVar 1) (dCons (dVar 2) (dCons (dVar 3) dNil))))) (dC (.int 0))) (pNm 5)) (dSeq (dIfS (dT (d2 opEq (dVar 5) (dC (.int 0)))) (dRet (dC .non)) dSkip) (dRet (dN opTup (dCons (dCall 2 phi_world (dCons (dVar 4) (dCons (dVar 5) dNil))) (dCons (d2 opIx (dCall 1 phi_earliest (dCons (dVar 4) dNil)) (d2 opSub (dVar 5) (dC (.int 1)))) dNil))))))))
def phi_held_world : Phi := dDef 6 den_held_world
/-- k06 shown, 0:book 1:person 2:door 3:moment 4:name 5:kind 6:times 7:held -/
def den_shown : DS := (dSeq (dDrop (dCall 4 phi_need_all (dCons (dVar 0) (dCons (dVar 1) (dCons (dVar 2) (dCons (dVar 3) dNil)))))) (dSeq (dFor (iR1 (dN opLen (dCons (dFld "rows" (dVar 0)) dNil))) (pNm 4) (dFor (iSeq' (d2 opIx (dFld "opens" (dVar 0)) (dVar 4))) (pNm 5) (dSeq (dAsg (dCall 4 phi_lock_world (dCons (dVar 0) (dCons (dVar 2) (dCons (dVar 3) (dCons (dVar 5) dNil))))) (pNm 6)) (dSeq (dAsg (dCall 4 phi_held_world (dCons (dVar 0) (dCons (dVar 4) (dCons (dVar 1) (dCons (dVar 3) dNil))))) (pNm 7)) (dIfS (dAnd (dT (d2 opIsNot (dVar 6) (dC .non))) (dT (d2 opIsNot (dVar 7) (dC .non)))) (dRet (d2 opAdd (d2 opAdd (dN opTup (dCons (dVar 4) dNil)) (dVar 7)) (dN opTup (dCons (dVar 6) dNil)))) dSkip))))) (dRet (dC .non))))
def phi_shown : Phi := dDef 8 den_shown
/-- k06 _law_is_world, 0:_law_rows 1:_law_times 2:_law_k -/
def den_l_is_world : DS := (dSeq (dIfS (dOr (dNot (dT (d1 (opIsi .lst) (dVar 1)))) (dT (d2 opNe (dN opLen (dCons (dVar 1) dNil)) (dN opLen (dCons (dVar 0) dNil))))) (dRet (dC (.bl false))) dSkip) (dSeq (dFor (iR1 (dN opLen (dCons (dVar 0) dNil))) (pNm 2) (dSeq (dIfS (dOr (dNot (dT (dCall 2 (phi_l_like 5) (dCons (d2 opIx (dVar 1) (dVar 2)) (dCons (dN opInt (dCons (d2 opIx (dVar 1) (dVar 2)) dNil)) dNil))))) (dNot (dT (dChain opLe opLe (d2 opIx (d2 opIx (dVar 0) (dVar 2)) (dC (.int 1))) (d2 opIx (dVar 1) (dVar 2)) (d2 opIx (d2 opIx (dVar 0) (dVar 2)) (dC (.int 2))))))) (dRet (dC (.bl false))) dSkip) (dIfS (dAnd (dT (d2 opGt (dVar 2) (dC (.int 0)))) (dT (d2 opLt (d2 opIx (dVar 1) (dVar 2)) (d2 opIx (dVar 1) (d2 opSub (dVar 2) (dC (.int 1))))))) (dRet (dC (.bl false))) dSkip))) (dRet (dC (.bl true)))))
def phi_l_is_world : Phi := dDef 3 den_l_is_world
/-- k06 _law_shows, 0:_law_case_here 1:_law_person 2:_law_door 3:_law_moment 4:_law_found 5:_law_name 6:_law_times 7:_law_begun 8:_law_fits_here 9:_law_opens 10:_law_plain 11:_law_rows -/
def den_l_shows : DS := (dSeq (dIfS (dOr (dNot (dT (d1 (opIsi .tup) (dVar 4)))) (dOr (dT (d2 opNe (dN opLen (dCons (dVar 4) dNil)) (dC (.int 4)))) (dNot (dT (dChain opLe opLt (dC (.int 0)) (d2 opIx (dVar 4) (dC (.int 0))) (dN opLen (dCons (d2 opIx (dVar 0) (dC (.int 1))) dNil))))))) (dRet (dC (.bl false))) dSkip) (dSeq (dAsg (dVar 4) (pTp (psLen 4 (psCons (pNm 5) (psCons (pNm 6) (psCons (pNm 7) (psCons (pNm 8) psNil))))))) (dSeq (dAsg (d2 opIx (d2 opIx (dVar 0) (dC (.int 1))) (dVar 5)) (pTp (psLen 3 (psCons (pNm 9) (psCons (pNm 10) (psCons (pNm 11) psNil)))))) (dSeq (dIfS (dOr (dNot (dT (dCall 2 phi_l_is_world (dCons (dVar 11) (dCons (dVar 6) dNil))))) (dNot (dT (dCall 2 phi_l_is_world (dCons (d2 opIx (d2 opIx (dVar 0) (dC (.int 2))) (dVar 2)) (dCons (dVar 8) dNil)))))) (dRet (dC (.bl false))) dSkip) (dSeq (dIfS (dOr (dNot (dT (dCall 2 (phi_l_like 5) (dCons (dVar 7) (dCons (dN opInt (dCons (dVar 7) dNil)) dNil))))) (dOr (dNot (dT (dChain opLe opLe (dC (.int 0)) (dVar 7) (dVar 3)))) (dAnd (dT (d2 opLt (dVar 7) (dVar 3))) (dNot (dT (dVar 10)))))) (dRet (dC (.bl false))) dSkip) (dRet (dAndV (d2 opIn (dCall 3 phi_l_at (dCons (dVar 11) (dCons (dVar 6) (dCons (dVar 7) dNil)))) (dN opTup (dCons (dVar 1) (dCons (dC .non) dNil)))) (d2 opIn (dCall 3 phi_l_at (dCons (d2 opIx (d2 opIx (dVar 0) (dC (.int 2))) (dVar 2)) (dCons (dVar 8) (dCons (dVar 3) dNil)))) (dVar 9)))))))))
def phi_l_shows : Phi := dDef 12 den_l_shows
/-- k06 law, 0:_law_script 1:_law_d 2:_law_far 3:_law_case_here 4:_law_book_here 5:_law_turn 6:_law_person 7:_law_door 8:_law_moment 9:_law_again 10:_law_found -/
def den_law_v5 : DS := (dSeq (dAsg (dCall 1 phi_l_dice (dCons (dVar 0) dNil)) (pNm 1)) (dSeq (dAsg (d2 opIx (dN opLst (dCons (dC (.int 12)) (dCons (dC (.int 30)) (dCons (dC (.int 999)) dNil)))) (dCall 2 phi_l_next (dCons (dVar 1) (dCons (dC (.int 3)) dNil)))) (pNm 2)) (dSeq (dAsg (dCall 4 phi_l_case (dCons (dVar 1) (dCons (d2 opAdd (dC (.int 1)) (dCall 2 phi_l_next (dCons (dVar 1) (dCons (dC (.int 8)) dNil)))) (dCons (dN opTup (dCons (dC (.int 6)) (dCons (dC (.int 8)) (dCons (dC (.int 4)) dNil)))) (dCons (dVar 2) dNil))))) (pNm 3)) (dSeq (dAsg (dCall 1 phi_l_book (dCons (dVar 3) dNil)) (pNm 4)) (dSeq (dFor (iR1 (dC (.int 20))) (pNm 5) (dSeq (dPar 6 7 (dCall 2 phi_l_next (dCons (dVar 1) (dCons (d2 opIx (dVar 3) (dC (.int 0))) dNil))) (dCall 2 phi_l_next (dCons (dVar 1) (dCons (dN opLen (dCons (d2 opIx (dVar 3) (dC (.int 2))) dNil)) dNil)))) (dSeq (dAsg (dN opMin (dCons (dC (.int 999)) (dCons (dCall 2 phi_l_next (dCons (dVar 1) (dCons (d2 opAdd (dVar 2) (dC (.int 3))) dNil))) dNil))) (pNm 8)) (dFor (iR1 (dC (.int 2))) (pNm 9) (dSeq (dAsg (dCall 4 phi_shown (dCons (dVar 4) (dCons (dVar 6) (dCons (dVar 7) (dCons (dVar 8) dNil))))) (pNm 10)) (dSeq (dIfS (dT (d2 opNe (d2 opIs (dVar 10) (dC .non)) (d2 opEq (dCall 4 phi_could (dCons (dVar 4) (dCons (dVar 6) (dCons (dVar 7) (dCons (dVar 8) dNil))))) (dC (.str "no"))))) (dRet (dC (.bl false))) dSkip) (dIfS (dT (d2 opIsNot (dVar 10) (dC .non))) (dSeq (dIfS (dNot (dT (dCall 5 phi_l_shows (dCons (dVar 3) (dCons (dVar 6) (dCons (dVar 7) (dCons (dVar 8) (dCons (dVar 10) dNil)))))))) (dRet (dC (.bl false))) dSkip) (dSeq (dDrop (dBM mAppend (d2 opIx (dVar 10) (dC (.int 1))) (dCons (d1 opNeg (dC (.int 1))) dNil))) (dDrop (dBM mAppend (d2 opIx (dVar 10) (dC (.int 3))) (dCons (d1 opNeg (dC (.int 1))) dNil))))) dSkip))))))) (dRet (dC (.bl true))))))))
def phi_law_v5 : Phi := dDef 11 den_law_v5
/-- k07 away_world, 0:book 1:name 2:person 3:moment 4:rows 5:places 6:place -/
def den_away_world : DS := (dSeq (dAsg (d2 opIx (dFld "rows" (dVar 0)) (dVar 1)) (pNm 4)) (dSeq (dAsg (dCall 2 phi_possible (dCons (dVar 4) (dCons (dVar 3) dNil))) (pNm 5)) (dSeq (dFor (iSeq' (dVar 5)) (pNm 6) (dIfS (dOr (dT (d2 opEq (dVar 6) (dC (.int 0)))) (dT (d2 opNe (d2 opIx (d2 opIx (dVar 4) (d2 opSub (dVar 6) (dC (.int 1)))) (dC (.int 0))) (dVar 2)))) (dRet (dCall 2 phi_world (dCons (dVar 4) (dCons (dVar 6) dNil)))) dSkip)) (dRet (dCall 2 phi_world (dCons (dVar 4) (dCons (d2 opIx (dVar 5) (dC (.int 0))) dNil)))))))
def phi_away_world : Phi := dDef 7 den_away_world
/-- k07 denied, 0:book 1:person 2:door 3:moment 4:names 5:mine 6:kind 7:keys 8:name -/
def den_denied : DS := (dSeq (dDrop (dCall 4 phi_need_all (dCons (dVar 0) (dCons (dVar 1) (dCons (dVar 2) (dCons (dVar 3) dNil)))))) (dSeq (dIfS (dT (d2 opEq (dCall 4 phi_answer (dCons (dVar 0) (dCons (dVar 1) (dCons (dVar 2) (dCons (dVar 3) dNil))))) (dC (.str "surely")))) (dRet (dC .non)) dSkip) (dSeq (dAsg (d1 opLRg (dN opLen (dCons (dFld "rows" (dVar 0)) dNil))) (pNm 4)) (dSeq (dAsg (dLc (iSeq' (dVar 4)) (pNm 8) (dT (d2 opEq (d2 opIx (dMeth "who" 3 phi_Book_who (dVar 0) (dCons (dVar 8) (dCons (dVar 3) dNil))) (dC (.int 0))) (dVar 1))) (dVar 8) [8]) (pNm 5)) (dSeq (dFor (iSeq' (dMeth "kinds" 3 phi_Book_kinds (dVar 0) (dCons (dVar 2) (dCons (dVar 3) dNil)))) (pNm 6) (dIfS (dT (d2 opEq (dLc (iSeq' (dVar 5)) (pNm 8) (dT (d2 opIn (dVar 6) (d2 opIx (dFld "opens" (dVar 0)) (dVar 8)))) (dVar 8) [8]) (dN opLst dNil))) (dSeq (dAsg (dLcH (iSeq' (dVar 4)) (pNm 8) dYes (dCall 4 phi_away_world (dCons (dVar 0) (dCons (dVar 8) (dCons (dVar 1) (dCons (dVar 3) dNil))))) [8]) (pNm 7)) (dRet (dN opTup (dCons (dVar 7) (dCons (dCall 4 phi_lock_world (dCons (dVar 0) (dCons (dVar 2) (dCons (dVar 3) (dCons (dVar 6) dNil))))) dNil))))) dSkip)) (dRet (dC .non)))))))
def phi_denied : Phi := dDef 9 den_denied
/-- k07 _law_denies, 0:_law_case_here 1:_law_person 2:_law_door 3:_law_moment 4:_law_found 5:_law_kind 6:_law_name 7:_law_opens 8:_law_plain 9:_law_rows -/
def den_l_denies : DS := (dSeq (dIfS (dOr (dNot (dT (d1 (opIsi .tup) (dVar 4)))) (dOr (dT (d2 opNe (dN opLen (dCons (dVar 4) dNil)) (dC (.int 2)))) (dNot (dT (d1 (opIsi .lst) (d2 opIx (dVar 4) (dC (.int 0)))))))) (dRet (dC (.bl false))) dSkip) (dSeq (dIfS (dOr (dT (d2 opNe (dN opLen (dCons (d2 opIx (dVar 4) (dC (.int 0))) dNil)) (dN opLen (dCons (d2 opIx (dVar 0) (dC (.int 1))) dNil)))) (dNot (dT (dCall 2 phi_l_is_world (dCons (d2 opIx (d2 opIx (dVar 0) (dC (.int 2))) (dVar 2)) (dCons (d2 opIx (dVar 4) (dC (.int 1))) dNil)))))) (dRet (dC (.bl false))) dSkip) (dSeq (dAsg (dCall 3 phi_l_at (dCons (d2 opIx (d2 opIx (dVar 0) (dC (.int 2))) (dVar 2)) (dCons (d2 opIx (dVar 4) (dC (.int 1))) (dCons (dVar 3) dNil)))) (pNm 5)) (dSeq (dFor (iR1 (dN opLen (dCons (d2 opIx (dVar 0) (dC (.int 1))) dNil))) (pNm 6) (dSeq (dAsg (d2 opIx (d2 opIx (dVar 0) (dC (.int 1))) (dVar 6)) (pTp (psLen 3 (psCons (pNm 7) (psCons (pNm 8) (psCons (pNm 9) psNil)))))) (dSeq (dIfS (dNot (dT (dCall 2 phi_l_is_world (dCons (dVar 9) (dCons (d2 opIx (d2 opIx (dVar 4) (dC (.int 0))) (dVar 6)) dNil))))) (dRet (dC (.bl false))) dSkip) (dIfS (dAnd (dT (d2 opEq (dCall 3 phi_l_at (dCons (dVar 9) (dCons (d2 opIx (d2 opIx (dVar 4) (dC (.int 0))) (dVar 6)) (dCons (dVar 3) dNil)))) (dVar 1))) (dT (d2 opIn (dVar 5) (dVar 7)))) (dRet (dC (.bl false))) dSkip)))) (dRet (dC (.bl true)))))))
def phi_l_denies : Phi := dDef 10 den_l_denies
/-- k07 law, 0:_law_script 1:_law_d 2:_law_far 3:_law_case_here 4:_law_book_here 5:_law_turn 6:_law_person 7:_law_door 8:_law_moment 9:_law_again 10:_law_found 11:_law_times -/
def den_law_v6 : DS := (dSeq (dAsg (dCall 1 phi_l_dice (dCons (dVar 0) dNil)) (pNm 1)) (dSeq (dAsg (d2 opIx (dN opLst (dCons (dC (.int 12)) (dCons (dC (.int 30)) (dCons (dC (.int 999)) dNil)))) (dCall 2 phi_l_next (dCons (dVar 1) (dCons (dC (.int 3)) dNil)))) (pNm 2)) (dSeq (dAsg (dCall 4 phi_l_case (dCons (dVar 1) (dCons (d2 opAdd (dC (.int 1)) (dCall 2 phi_l_next (dCons (dVar 1) (dCons (dC (.int 8)) dNil)))) (dCons (dN opTup (dCons (dC (.int 6)) (dCons (dC (.int 8)) (dCons (dC (.int 4)) dNil)))) (dCons (dVar 2) dNil))))) (pNm 3)) (dSeq (dAsg (dCall 1 phi_l_book (dCons (dVar 3) dNil)) (pNm 4)) (dSeq (dFor (iR1 (dC (.int 20))) (pNm 5) (dSeq (dPar 6 7 (dCall 2 phi_l_next (dCons (dVar 1) (dCons (d2 opIx (dVar 3) (dC (.int 0))) dNil))) (dCall 2 phi_l_next (dCons (dVar 1) (dCons (dN opLen (dCons (d2 opIx (dVar 3) (dC (.int 2))) dNil)) dNil)))) (dSeq (dAsg (dN opMin (dCons (dC (.int 999)) (dCons (dCall 2 phi_l_next (dCons (dVar 1) (dCons (d2 opAdd (dVar 2) (dC (.int 3))) dNil))) dNil))) (pNm 8)) (dFor (iR1 (dC (.int 2))) (pNm 9) (dSeq (dAsg (dCall 4 phi_denied (dCons (dVar 4) (dCons (dVar 6) (dCons (dVar 7) (dCons (dVar 8) dNil))))) (pNm 10)) (dSeq (dIfS (dT (d2 opNe (d2 opIs (dVar 10) (dC .non)) (d2 opEq (dCall 4 phi_could (dCons (dVar 4) (dCons (dVar 6) (dCons (dVar 7) (dCons (dVar 8) dNil))))) (dC (.str "surely"))))) (dRet (dC (.bl false))) dSkip) (dIfS (dT (d2 opIsNot (dVar 10) (dC .non))) (dSeq (dIfS (dNot (dT (dCall 5 phi_l_denies (dCons (dVar 3) (dCons (dVar 6) (dCons (dVar 7) (dCons (dVar 8) (dCons (dVar 10) dNil)))))))) (dRet (dC (.bl false))) dSkip) (dFor (iSeq' (d2 opAdd (d2 opIx (dVar 10) (dC (.int 0))) (dN opLst (dCons (d2 opIx (dVar 10) (dC (.int 1))) (dCons (d2 opIx (dVar 10) (dC (.int 0))) dNil))))) (pNm 11) (dDrop (dBM mAppend (dVar 11) (dCons (d1 opNeg (dC (.int 1))) dNil))))) dSkip))))))) (dRet (dC (.bl true))))))))
def phi_law_v6 : Phi := dDef 12 den_law_v6
/-- k05 _law_pairs own , 0:_law_keys 1:_law_found 2:_law_opens 3:_law_plain 4:_law_rows 5:_law_longer 6:_law_some 7:_law_times -/
def den_l_pairs : DS := (dSeq (dAsg (dN opLst (dCons (dN opLst dNil) dNil)) (pNm 1)) (dSeq (dFor (iSeq' (dVar 0)) (pTp (psLen 3 (psCons (pNm 2) (psCons (pNm 3) (psCons (pNm 4) psNil))))) (dSeq (dOwn 5 dNil) (dSeq (dFor (iSeq' (dVar 1)) (pNm 6) (dExt 5 (dLc (iSeq' (dCall 1 phi_l_worlds (dCons (dVar 4) dNil))) (pNm 7) dYes (d2 opAdd (dVar 6) (dN opLst (dCons (dVar 7) dNil))) [7]))) (dSeq (dFz 5) (dAsg (dVar 5) (pNm 1)))))) (dRet (dVar 1))))
def phi_l_pairs : Phi := dDef 8 den_l_pairs
/-- k05 _law_can, 0:_law_keys 1:_law_times 2:_law_person 3:_law_kind 4:_law_moment 5:_law_sure 6:_law_may 7:_law_k 8:_law_opens 9:_law_plain 10:_law_rows 11:_law_begin 12:_law_some 13:_law_time -/
def den_l_can : DS := (dSeq (dAsg (dN opTup (dCons (dC (.bl false)) (dCons (dC (.bl false)) dNil))) (pTp (psLen 2 (psCons (pNm 5) (psCons (pNm 6) psNil))))) (dSeq (dFor (iR1 (dN opLen (dCons (dVar 0) dNil))) (pNm 7) (dSeq (dAsg (d2 opIx (dVar 0) (dVar 7)) (pTp (psLen 3 (psCons (pNm 8) (psCons (pNm 9) (psCons (pNm 10) psNil)))))) (dIfS (dT (d2 opIn (dVar 3) (dVar 8))) (dSeq (dAsg (dOrV (dVar 5) (d2 opEq (dCall 3 phi_l_at (dCons (dVar 10) (dCons (d2 opIx (dVar 1) (dVar 7)) (dCons (dVar 4) dNil)))) (dVar 2))) (pNm 5)) (dSeq (dAsg (d2 opIx (dN opLst (dCons (dVar 4) (dCons (dC (.int 0)) dNil))) (dN opInt (dCons (dVar 9) dNil))) (pNm 11)) (dSeq (dAsg (dLc (iR2 (dVar 11) (d2 opAdd (dVar 4) (dC (.int 1)))) (pNm 13) dYes (dCall 3 phi_l_at (dCons (dVar 10) (dCons (d2 opIx (dVar 1) (dVar 7)) (dCons (dVar 13) dNil)))) [13]) (pNm 12)) (dAsg (dOrV (dVar 6) (dOrV (d2 opIn (dVar 2) (dVar 12)) (d2 opIn (dC .non) (dVar 12)))) (pNm 6))))) dSkip))) (dRet (dN opTup (dCons (dVar 5) (dCons (dVar 6) dNil))))))
def phi_l_can : Phi := dDef 14 den_l_can
/-- k05 law own , 0:_law_script 1:_law_d 2:_law_persons 3:_law_case_here 4:_law_book_here 5:_law_keys 6:_law_worlds_here 7:_law_locks 8:_law_moment 9:_law_kinds 10:_law_words 11:_law_person 12:_law_rows 13:_law_kind 14:_law_word 15:_law_due 16:_law_times 17:_law_row_here -/
def den_law_v7 : DS := (dSeq (dAsg (dCall 1 phi_l_dice (dCons (dVar 0) dNil)) (pNm 1)) (dSeq (dAsg (d2 opAdd (dC (.int 1)) (dCall 2 phi_l_next (dCons (dVar 1) (dCons (dC (.int 3)) dNil)))) (pNm 2)) (dSeq (dAsg (dCall 4 phi_l_case (dCons (dVar 1) (dCons (dVar 2) (dCons (dN opTup (dCons (dC (.int 2)) (dCons (dC (.int 3)) (dCons (dC (.int 1)) dNil)))) (dCons (d2 opAdd (dC (.int 2)) (dCall 2 phi_l_next (dCons (dVar 1) (dCons (dC (.int 4)) dNil)))) dNil))))) (pNm 3)) (dSeq (dAsg (dCall 1 phi_l_book (dCons (dVar 3) dNil)) (pNm 4)) (dSeq (dAsg (d2 opIx (dVar 3) (dC (.int 1))) (pNm 5)) (dSeq (dAsg (dSl opSl (dCall 1 phi_l_pairs (dCons (dVar 5) dNil)) doNo (doSo (dC (.int 400)))) (pNm 6)) (dSeq (dAsg (dCall 1 phi_l_worlds (dCons (d2 opIx (d2 opIx (dVar 3) (dC (.int 2))) (dC (.int 0))) dNil)) (pNm 7)) (dSeq (dIfS (dT (d2 opEq (dN opLen (dCons (dVar 6) dNil)) (dC (.int 400)))) (dRet (dC (.bl true))) dSkip) (dSeq (dFor (iR1 (dC (.int 7))) (pNm 8) (dSeq (dAsg (d1 opSSet (dLc (iSeq' (dVar 7)) (pNm 16) dYes (dCall 3 phi_l_at (dCons (d2 opIx (d2 opIx (dVar 3) (dC (.int 2))) (dC (.int 0))) (dCons (dVar 16) (dCons (dVar 8) dNil)))) [16])) (pNm 9)) (dSeq (dAsg (dLstH dNil) (pNm 10)) (dSeq (dFor (iR1 (dVar 2)) (pNm 11) (dSeq (dOwn 12 dNil) (dSeq (dFor (iSeq' (dVar 9)) (pNm 13) (dExt 12 (dLc (iSeq' (dVar 6)) (pNm 16) dYes (dCall 5 phi_l_can (dCons (dVar 5) (dCons (dVar 16) (dCons (dVar 11) (dCons (dVar 13) (dCons (dVar 8) dNil)))))) [16]))) (dSeq (dFz 12) (dSeq (dAsg (dIf (dT (d2 opNe (dLc (iSeq' (dVar 12)) (pNm 17) (dT (d2 opIx (dVar 17) (dC (.int 1)))) (dVar 17) [17]) (dN opLst dNil))) (dC (.str "maybe")) (dC (.str "no"))) (pNm 14)) (dSeq (dDrop (dBM mAppend (dVar 10) (dCons (dIf (dT (d2 opEq (dLc (iSeq' (dVar 12)) (pNm 17) (dNot (dT (d2 opIx (dVar 17) (dC (.int 0))))) (dVar 17) [17]) (dN opLst dNil))) (dC (.str "surely")) (dVar 14)) dNil))) (dIfS (dNot (dT (dCall 2 (phi_l_like 5) (dCons (dCall 4 phi_could (dCons (dVar 4) (dCons (dVar 11) (dCons (dC (.int 0)) (dCons (dVar 8) dNil))))) (dCons (d2 opIx (dVar 10) (d1 opNeg (dC (.int 1)))) dNil))))) (dRet (dC (.bl false))) dSkip))))))) (dSeq (dOwn 15 dNil) (dSeq (dFor (iSeq' (dN opLst (dCons (dC (.str "surely")) (dCons (dC (.str "maybe")) dNil)))) (pNm 14) (dApp 15 (dLc (iR1 (dVar 2)) (pNm 11) (dT (d2 opEq (d2 opIx (dVar 10) (dVar 11)) (dVar 14))) (dVar 11) [11]))) (dSeq (dFz 15) (dIfS (dNot (dT (dCall 2 (phi_l_like 5) (dCons (dCall 3 phi_openers (dCons (dVar 4) (dCons (dC (.int 0)) (dCons (dVar 8) dNil)))) (dCons (dN opTup (dCons (d2 opIx (dVar 15) (dC (.int 0))) (dCons (d2 opIx (dVar 15) (dC (.int 1))) dNil))) dNil))))) (dRet (dC (.bl false))) dSkip)))))))) (dRet (dC (.bl true))))))))))))
def phi_law_v7 : Phi := dDef 18 den_law_v7
/-- k34 _law_told, 0:_law_work 1:e 2:_law_kinds 3:_law_words_here 4:_law_word -/
def den_told (a : Addr) (d : Option Addr) (xc : Xc) : DS := (dSeq (dAsg (dN opLst (dCons (dIsX a d 1 (xc.nm == "BadBook")) (dCons (dIsX a d 1 (xc.nm == "BadKey")) (dCons (dIsX a d 1 (xc.nm == "NoOne")) (dCons (dIsX a d 1 (xc.nm == "BadPlace")) dNil))))) (pNm 2)) (dSeq (dAsg (d2 opAdd (dVar 2) (dN opLst (dCons (dIsX a d 1 (xc.nm == "BadTimes")) (dCons (dIsX a d 1 (xc.nm == "NoMoment")) dNil)))) (pNm 2)) (dSeq (dAsg (dN opLst (dCons (dC (.str "book")) (dCons (dC (.str "key")) (dCons (dC (.str "one")) (dCons (dC (.str "place")) (dCons (dC (.str "times")) (dCons (dC (.str "moment")) dNil))))))) (pNm 3)) (dSeq (dIfS (dOr (dT (d2 opNe (dRM opCnt (dVar 2) (dC (.bl true))) (dC (.int 1)))) (dNot (dT (dIsX a d 1 true)))) (dRet (dN opTup (dCons (dC (.str "other")) dNil))) dSkip) (dSeq (dAsg (d2 opIx (dVar 3) (dRM opIdx (dVar 2) (dC (.bl true)))) (pNm 4)) (dSeq (dIfS (dT (d2 opEq (dVar 4) (dC (.str "key")))) (dRet (dN opTup (dCons (dVar 4) (dCons (dXf a d 1 "word") dNil)))) dSkip) (dRet (dIf (dT (d2 opEq (dVar 4) (dC (.str "times")))) (dN opTup (dCons (dVar 4) (dCons (dXf a d 1 "place") dNil))) (dN opTup (dCons (dVar 4) dNil))))))))))
/-- k34 need_place, 0:rows 1:place -/
def den_need_place_v2 : DS := (dIfS (dOr (dNot (dT (dChain opLe opLe (dC (.int 0)) (dVar 1) (dN opLen (dCons (dVar 0) dNil))))) (dT (d2 opEq (dN opLen (dCons (dVar 0) dNil)) (dC (.int 8))))) (dRaise .badPlace) dSkip)
def phi_need_place_v2 : Phi := dDef 2 den_need_place_v2
/-- k34 with_row, 0:rows 1:place 2:row 3:found 4:bad -/
def den_with_row_v2 : DS := (dSeq (dIfS (dNot (dT (dChain3 opLe opLe opLe (dC (.int 0)) (d2 opIx (dVar 2) (dC (.int 1))) (d2 opIx (dVar 2) (dC (.int 2))) (dC (.int 999))))) (dRaiseI mkPlace (dVar 1)) dSkip) (dSeq (dAsg (d2 opAdd (d2 opAdd (dSl opSl (dVar 0) doNo (doSo (dVar 1))) (dN opLst (dCons (dVar 2) dNil))) (dSl opSl (dVar 0) (doSo (dVar 1)) doNo)) (pNm 3)) (dSeq (dAsg (dCall 1 phi_first_bad (dCons (dVar 3) dNil)) (pNm 4)) (dSeq (dIfS (dT (d2 opIsNot (dVar 4) (dC .non))) (dRaiseI mkPlace (dVar 4)) dSkip) (dRet (dVar 3))))))
def phi_with_row_v2 : Phi := dDef 5 den_with_row_v2
/-- k34 Book.hand, 0:self 1:name 2:place 3:person 4:early 5:late -/
def den_Book_hand_v2 : DS := (dSeq (dDrop (dMeth "need_key" 2 phi_Book_need_key (dVar 0) (dCons (dVar 1) dNil))) (dSeq (dDrop (dCall 2 phi_need_place_v2 (dCons (d2 opIx (dFld "rows" (dVar 0)) (dVar 1)) (dCons (dVar 2) dNil)))) (dSeq (dIfS (dT (d2 opIsNot (dVar 3) (dC .non))) (dDrop (dMeth "need_person" 2 phi_Book_need_person (dVar 0) (dCons (dVar 3) dNil))) dSkip) (dSetI (dFld "rows" (dVar 0)) (dVar 1) (dCall 3 phi_with_row_v2 (dCons (d2 opIx (dFld "rows" (dVar 0)) (dVar 1)) (dCons (dVar 2) (dCons (dN opTup (dCons (dVar 3) (dCons (dVar 4) (dCons (dVar 5) dNil)))) dNil))))))))
def phi_Book_hand_v2 : Phi := dDef 6 den_Book_hand_v2
/-- k34 Book.fit, 0:self 1:door 2:place 3:kind 4:early 5:late -/
def den_Book_fit_v2 : DS := (dSeq (dDrop (dMeth "need_door" 2 phi_Book_need_door (dVar 0) (dCons (dVar 1) dNil))) (dSeq (dDrop (dCall 2 phi_need_place_v2 (dCons (d2 opIx (dFld "doors" (dVar 0)) (dVar 1)) (dCons (dVar 2) dNil)))) (dSeq (dIfS (dNot (dT (dChain opLe opLe (dC (.int 0)) (dVar 3) (dC (.int 9))))) dDead dSkip) (dSetI (dFld "doors" (dVar 0)) (dVar 1) (dCall 3 phi_with_row_v2 (dCons (d2 opIx (dFld "doors" (dVar 0)) (dVar 1)) (dCons (dVar 2) (dCons (dN opTup (dCons (dVar 3) (dCons (dVar 4) (dCons (dVar 5) dNil)))) dNil))))))))
def phi_Book_fit_v2 : Phi := dDef 6 den_Book_fit_v2
/-- k34 _law_turn, 0:_law_d 1:_law_book 2:_law_case 3:_law_persons 4:_law_keys 5:_law_doors 6:_law_way 7:_law_opens 8:_law_plain 9:_law_early 10:_law_late 11:_law_name 12:_law_rows 13:_law_place 14:_law_who 15:_law_row 16:_law_door 17:_law_kind -/
def den_l_turn : DS := (dSeq (dAsg (dVar 2) (pTp (psLen 3 (psCons (pNm 3) (psCons (pNm 4) (psCons (pNm 5) psNil)))))) (dSeq (dAsg (dCall 2 phi_l_next (dCons (dVar 0) (dCons (dC (.int 6)) dNil))) (pNm 6)) (dSeq (dIfS (dAnd (dT (d2 opEq (dVar 6) (dC (.int 0)))) (dT (d2 opLt (dN opLen (dCons (dVar 4) dNil)) (dC (.int 6))))) (dSeq (dAsg (dN opTuple (dCons (dLc (iR1 (dC (.int 10))) (pNm 17) (dT (d2 opEq (dCall 2 phi_l_next (dCons (dVar 0) (dCons (dC (.int 2)) dNil))) (dC (.int 0)))) (dVar 17) [17]) dNil)) (pNm 7)) (dSeq (dAsg (d2 opEq (dCall 2 phi_l_next (dCons (dVar 0) (dCons (dC (.int 2)) dNil))) (dC (.int 1))) (pNm 8)) (dSeq (dDrop (dBM mAppend (dVar 4) (dCons (dN opTup (dCons (dVar 7) (dCons (dVar 8) (dCons (dLstH dNil) dNil)))) dNil))) (dDrop (dMeth "cut" 3 phi_Book_cut (dVar 1) (dCons (dVar 7) (dCons (dVar 8) dNil))))))) dSkip) (dSeq (dAsg (dCall 2 phi_l_window (dCons (dVar 0) (dCons (d2 opIx (dN opLst (dCons (dC (.int 8)) (dCons (dC (.int 20)) dNil))) (dCall 2 phi_l_next (dCons (dVar 0) (dCons (dC (.int 2)) dNil)))) dNil))) (pTp (psLen 2 (psCons (pNm 9) (psCons (pNm 10) psNil))))) (dSeq (dIfS (dAnd (dT (d2 opLt (dVar 6) (dC (.int 4)))) (dT (d2 opNe (dVar 4) (dN opLst dNil)))) (dSeq (dAsg (dCall 2 phi_l_next (dCons (dVar 0) (dCons (dN opLen (dCons (dVar 4) dNil)) dNil))) (pNm 11)) (dSeq (dAsg (d2 opIx (d2 opIx (dVar 4) (dVar 11)) (dC (.int 2))) (pNm 12)) (dSeq (dAsg (dCall 2 phi_l_next (dCons (dVar 0) (dCons (d2 opAdd (dN opLen (dCons (dVar 12) dNil)) (dC (.int 1))) dNil))) (pNm 13)) (dSeq (dAsg (d2 opIx (d2 opAdd (dN opLst (dCons (dC .non) dNil)) (d2 opMul (d1 opLRg (dVar 3)) (dC (.int 2)))) (dCall 2 phi_l_next (dCons (dVar 0) (dCons (d2 opAdd (dC (.int 1)) (d2 opMul (dC (.int 2)) (dVar 3))) dNil)))) (pNm 14)) (dSeq (dDrop (dTold "_law_turn" (dMeth "hand" 6 phi_Book_hand_v2 (dVar 1) (dCons (dVar 11) (dCons (dVar 13) (dCons (dVar 14) (dCons (dVar 9) (dCons (dVar 10) dNil)))))))) (dAsg (dN opTup (dCons (dVar 14) (dCons (dVar 9) (dCons (dVar 10) dNil)))) (pNm 15))))))) (dSeq (dAsg (dCall 2 phi_l_next (dCons (dVar 0) (dCons (dN opLen (dCons (dVar 5) dNil)) dNil))) (pNm 16)) (dSeq (dAsg (d2 opIx (dVar 5) (dVar 16)) (pNm 12)) (dSeq (dAsg (dCall 2 phi_l_next (dCons (dVar 0) (dCons (d2 opAdd (dN opLen (dCons (dVar 12) dNil)) (dC (.int 1))) dNil))) (pNm 13)) (dSeq (dAsg (dCall 2 phi_l_next (dCons (dVar 0) (dCons (d2 opIx (dN opLst (dCons (dC (.int 3)) (dCons (dC (.int 10)) dNil))) (dCall 2 phi_l_next (dCons (dVar 0) (dCons (dC (.int 2)) dNil)))) dNil))) (pNm 17)) (dSeq (dDrop (dTold "_law_turn" (dMeth "fit" 6 phi_Book_fit_v2 (dVar 1) (dCons (dVar 16) (dCons (dVar 13) (dCons (dVar 17) (dCons (dVar 9) (dCons (dVar 10) dNil)))))))) (dAsg (dN opTup (dCons (dVar 17) (dCons (dVar 9) (dCons (dVar 10) dNil)))) (pNm 15)))))))) (dIfS (dAnd (dT (d2 opLt (dN opLen (dCons (dVar 12) dNil)) (dC (.int 8)))) (dT (d2 opIs (dCall 1 phi_l_fits (dCons (d2 opAdd (d2 opAdd (dSl opSl (dVar 12) doNo (doSo (dVar 13))) (dN opLst (dCons (dVar 15) dNil))) (dSl opSl (dVar 12) (doSo (dVar 13)) doNo)) dNil)) (dC .non)))) (dDrop (dBM mInsert (dVar 12) (dCons (dVar 13) (dCons (dVar 15) dNil)))) dSkip))))))
def phi_l_turn : Phi := dDef 18 den_l_turn
/-- k34 _law_story, 0:_law_d 1:_law_most 2:_law_persons 3:_law_many 4:_law_case 5:_law_book 6:_law_turn_here 7:_law_door -/
def den_l_story : DS := (dSeq (dPar 2 3 (d2 opAdd (dC (.int 1)) (dCall 2 phi_l_next (dCons (dVar 0) (dCons (dC (.int 4)) dNil)))) (d2 opAdd (dC (.int 1)) (dCall 2 phi_l_next (dCons (dVar 0) (dCons (dC (.int 2)) dNil))))) (dSeq (dAsg (dN opTup (dCons (dVar 2) (dCons (dLstH dNil) (dCons (dLcH (iR1 (dVar 3)) (pNm 7) dYes (dLstH dNil) [7]) dNil)))) (pNm 4)) (dSeq (dAsg (dMake 3 phi_Book_init (dCons (dVar 2) (dCons (dVar 3) dNil))) (pNm 5)) (dSeq (dFor (iR1 (d2 opAdd (dC (.int 2)) (dCall 2 phi_l_next (dCons (dVar 0) (dCons (dVar 1) dNil))))) (pNm 6) (dDrop (dCall 3 phi_l_turn (dCons (dVar 0) (dCons (dVar 5) (dCons (dVar 4) dNil)))))) (dRet (dVar 4))))))
def phi_l_story : Phi := dDef 8 den_l_story
/-- k34 _law_written, 0:_law_case 1:_law_persons 2:_law_keys 3:_law_doors 4:_law_book 5:_law_opens 6:_law_plain 7:_law_rows 8:_law_name 9:_law_place 10:_law_door 11:_law_row -/
def den_l_written : DS := (dSeq (dAsg (dVar 0) (pTp (psLen 3 (psCons (pNm 1) (psCons (pNm 2) (psCons (pNm 3) psNil)))))) (dSeq (dAsg (dMake 3 phi_Book_init (dCons (dVar 1) (dCons (dN opLen (dCons (dVar 3) dNil)) dNil))) (pNm 4)) (dSeq (dFor (iSeq' (dVar 2)) (pTp (psLen 3 (psCons (pNm 5) (psCons (pNm 6) (psCons (pNm 7) psNil))))) (dSeq (dAsg (dMeth "cut" 3 phi_Book_cut (dVar 4) (dCons (dVar 5) (dCons (dVar 6) dNil))) (pNm 8)) (dFor (iR1 (dN opLen (dCons (dVar 7) dNil))) (pNm 9) (dDrop (dMeth "hand" 6 phi_Book_hand_v2 (dVar 4) (dCons (dVar 8) (dCons (dVar 9) (dCons (d2 opIx (d2 opIx (dVar 7) (dVar 9)) (dC (.int 0))) (dCons (d2 opIx (d2 opIx (dVar 7) (dVar 9)) (dC (.int 1))) (dCons (d2 opIx (d2 opIx (dVar 7) (dVar 9)) (dC (.int 2))) dNil)))))))))) (dSeq (dFor (iR1 (dN opLen (dCons (dVar 3) dNil))) (pNm 10) (dFor (iR1 (dN opLen (dCons (d2 opIx (dVar 3) (dVar 10)) dNil))) (pNm 9) (dSeq (dAsg (d2 opIx (d2 opIx (dVar 3) (dVar 10)) (dVar 9)) (pNm 11)) (dDrop (dMeth "fit" 6 phi_Book_fit_v2 (dVar 4) (dCons (dVar 10) (dCons (dVar 9) (dCons (d2 opIx (dVar 11) (dC (.int 0))) (dCons (d2 opIx (dVar 11) (dC (.int 1))) (dCons (d2 opIx (dVar 11) (dC (.int 2))) dNil)))))))))) (dRet (dVar 4))))))
def phi_l_written : Phi := dDef 12 den_l_written
/-- k34 _law_words, 0:_law_book 1:_law_case 2:_law_moment 3:_law_door 4:_law_person -/
def den_l_words : DS := (dRet (dLc (iR1 (dN opLen (dCons (d2 opIx (dVar 1) (dC (.int 2))) dNil))) (pNm 3) dYes (dLc (iR1 (d2 opIx (dVar 1) (dC (.int 0)))) (pNm 4) dYes (dCall 4 phi_could (dCons (dVar 0) (dCons (dVar 4) (dCons (dVar 3) (dCons (dVar 2) dNil))))) [4]) [3]))
def phi_l_words : Phi := dDef 5 den_l_words
/-- k34 law, 0:_law_script 1:_law_d 2:_law_case 3:_law_persons 4:_law_keys 5:_law_doors 6:_law_whole 7:_law_singles 8:_law_moment 9:_law_rows 10:_law_parts 11:_law_door 12:_law_person 13:_law_words_here 14:_law_word 15:_law_begins 16:_law_row 17:_law_k 18:_law_one 19:_law_part -/
def den_law_v8 : DS := (dSeq (dAsg (dCall 1 phi_l_dice (dCons (dVar 0) dNil)) (pNm 1)) (dSeq (dAsg (dCall 2 phi_l_story (dCons (dVar 1) (dCons (dC (.int 36)) dNil))) (pNm 2)) (dSeq (dAsg (dVar 2) (pTp (psLen 3 (psCons (pNm 3) (psCons (pNm 4) (psCons (pNm 5) psNil)))))) (dSeq (dAsg (dCall 1 phi_l_written (dCons (dVar 2) dNil)) (pNm 6)) (dSeq (dAsg (dLc (iSeq' (dVar 4)) (pNm 16) dYes (dCall 1 phi_l_written (dCons (dN opTup (dCons (dVar 3) (dCons (dN opLst (dCons (dVar 16) dNil)) (dCons (dVar 5) dNil)))) dNil)) [16]) (pNm 7)) (dSeq (dFor (iSeq' (dLc (iR1 (dC (.int 4))) (pNm 17) dYes (dCall 2 phi_l_next (dCons (dVar 1) (dCons (dC (.int 24)) dNil))) [17])) (pNm 8) (dSeq (dAsg (dCall 3 phi_l_words (dCons (dVar 6) (dCons (dVar 2) (dCons (dVar 8) dNil)))) (pNm 9)) (dSeq (dAsg (dLc (iSeq' (dVar 7)) (pNm 18) dYes (dCall 3 phi_l_words (dCons (dVar 18) (dCons (dVar 2) (dCons (dVar 8) dNil)))) [18]) (pNm 10)) (dFor (iR1 (dN opLen (dCons (dVar 5) dNil))) (pNm 11) (dFor (iR1 (dVar 3)) (pNm 12) (dSeq (dAsg (dLc (iSeq' (dVar 10)) (pNm 19) dYes (d2 opIx (d2 opIx (dVar 19) (dVar 11)) (dVar 12)) [19]) (pNm 13)) (dSeq (dAsg (d2 opIx (d2 opIx (dVar 9) (dVar 11)) (dVar 12)) (pNm 14)) (dSeq (dIfS (dT (d2 opNe (d2 opEq (dVar 14) (dC (.str "no"))) (d2 opEq (dLc (iSeq' (dVar 13)) (pNm 18) (dT (d2 opNe (dVar 18) (dC (.str "no")))) (dVar 18) [18]) (dN opLst dNil)))) (dRet (dC (.bl false))) dSkip) (dSeq (dIfS (dAnd (dT (d2 opIn (dC (.str "surely")) (dVar 13))) (dT (d2 opNe (dVar 14) (dC (.str "surely"))))) (dRet (dC (.bl false))) dSkip) (dIfS (dAnd (dT (d2 opEq (dN opLen (dCons (dMeth "locks" 3 phi_Book_locks (dVar 6) (dCons (dVar 11) (dCons (dVar 8) dNil))) dNil)) (dC (.int 1)))) (dAnd (dT (d2 opEq (dVar 14) (dC (.str "surely")))) (dT (d2 opNotIn (dC (.str "surely")) (dVar 13))))) (dRet (dC (.bl false))) dSkip)))))))))) (dSeq (dAsg (dN opTup (dCons (dCall 2 phi_l_next (dCons (dVar 1) (dCons (dVar 3) dNil))) (dCons (dCall 2 phi_l_next (dCons (dVar 1) (dCons (dN opLen (dCons (dVar 5) dNil)) dNil))) dNil))) (pTp (psLen 2 (psCons (pNm 12) (psCons (pNm 11) psNil))))) (dSeq (dAsg (dLc (iSeq' (dLc (iSeq' (dVar 7)) (pNm 18) dYes (dCall 3 phi_first (dCons (dVar 18) (dCons (dVar 12) (dCons (dVar 11) dNil)))) [18])) (pNm 8) (dT (d2 opIsNot (dVar 8) (dC .non))) (dVar 8) [8]) (pNm 15)) (dRet (d2 opEq (dCall 3 phi_first (dCons (dVar 6) (dCons (dVar 12) (dCons (dVar 11) dNil)))) (dIf (dT (d2 opNe (dVar 15) (dN opLst dNil))) (dN opMin (dCons (dVar 15) dNil)) (dC .non))))))))))))
def phi_law_v8 : Phi := dDef 20 den_law_v8
end KR
set_option Elab.async false
set_option linter.all false
set_option maxRecDepth 100000
set_option maxHeartbeats 2000000
namespace KR
open PySem L2
structure Row where
  w : Option Int
  e : Int
  l : Int
def eO : Option Int → D
  | none => .non
  | some i => .int i
def eRow (r : Row) : D := .tup [eO r.w, .int r.e, .int r.l]
def eRows (rs : List Row) : D := .lst (rs.map eRow)
@[simp] theorem isN_eO (w : Option Int) : isN (eO w) = w.isNone := by cases w <;> rfl
@[simp] theorem qv_rows (o : Om) (rs : List Row) : qv o (eRows rs) = some (rs.map eRow) := rfl
@[simp] theorem lv_rows (o : Om) (rs : List Row) : lv o (eRows rs) = some (rs.map eRow) := rfl
def earl (h : Int) : List Row → List Int
  | [] => []
  | r :: rs => max h r.e :: earl (max h r.e) rs
def latR (h : Int) : List Row → List Int
  | [] => []
  | r :: rs => min h r.l :: latR (min h r.l) rs
theorem earl_len : ∀ (h : Int) (rs : List Row), (earl h rs).length = rs.length
  | _, [] => rfl
  | h, r :: rs => by simp [earl, earl_len _ rs]
theorem latR_len : ∀ (h : Int) (rs : List Row), (latR h rs).length = rs.length
  | _, [] => rfl
  | h, r :: rs => by simp [latR, latR_len _ rs]
theorem earliest_eq (rs : List Row) (o : Om) (hl : rs.length ≤ 1000) : phi_earliest [eRows rs] o = .ok (.lst ((earl 0 rs).map .int)) o := by
  refine def_ok ?_
  unfold den_earliest
  simp
  refine W_lst eRow rs (fun r ρ o1 => o1 = o ∧ ∃ (a b c : EV) (f : List Int) (h : Int), ρ = [.d (eRows rs), .own (f.map .int), .d (.int h), a, b, c] ∧ f ++ earl h r = earl 0 rs ∧ f.length + r.length = rs.length) ?_ ?_ ?_
  · exact ⟨rfl, _, _, _, [], 0, rfl, rfl, by simp⟩
  · rintro x r ρ o1 ⟨rfl, a, b, c, f, h, rfl, h1, h2⟩
    have hl2 : f.length < 100000 := by simp at h2; omega
    refine ⟨_, by simp [eRow]; rfl, ?_⟩
    simp [hl2]
    exact ⟨.d (eO x.w), .d (.int x.e), .d (.int x.l), f ++ [max h x.e], max h x.e, by simp, by simpa [earl] using h1, by simp at h2 ⊢; omega⟩
  · rintro ρ o1 ⟨rfl, a, b, c, f, h, rfl, h1, h2⟩
    simp [earl] at h1
    simp [h1]
theorem latest_eq (rs : List Row) (o : Om) (hl : rs.length ≤ 1000) : phi_latest [eRows rs] o = .ok (.lst ((latR 999 rs.reverse).reverse.map .int)) o := by
  refine def_ok ?_
  unfold den_latest
  simp
  refine W_rev eRow rs rs.length rfl (fun r ρ o1 => o1 = o ∧ ∃ (a b c : EV) (f : List Int) (h : Int), ρ = [.d (eRows rs), .own (f.map .int), .d (.int h), a, b, c] ∧ f ++ latR h r = latR 999 rs.reverse ∧ f.length + r.length = rs.length) ?_ ?_ ?_
  · exact ⟨rfl, _, _, _, [], 999, rfl, rfl, by simp⟩
  · rintro x r ρ o1 ⟨rfl, a, b, c, f, h, rfl, h1, h2⟩
    have hl2 : f.length < 100000 := by simp at h2; omega
    refine ⟨_, by simp [eRow]; rfl, ?_⟩
    simp [hl2]
    exact ⟨.d (eO x.w), .d (.int x.e), .d (.int x.l), f ++ [min h x.l], min h x.l, by simp, by simpa [latR] using h1, by simp at h2 ⊢; omega⟩
  · rintro ρ o1 ⟨rfl, a, b, c, f, h, rfl, h1, h2⟩
    simp [latR] at h1
    simp [h1, opRev]
/-! what these are -/
def soon (rs : List Row) (p : Nat) : Int := (rs.take p).foldl (fun h r => max h r.e) 0
def mnL (rs : List Row) : Int := rs.foldr (fun r h => min r.l h) 999
def ends (rs : List Row) (p : Nat) : Int := if p < rs.length then mnL (rs.drop p) else 1000
def kd (rs : List Row) (p : Nat) : Option Int := if p = 0 then none else (rs[p - 1]?).bind (·.w)
theorem earl_at : ∀ (h : Int) (rs : List Row) (i : Nat), i < rs.length → (earl h rs)[i]? = some ((rs.take (i + 1)).foldl (fun h r => max h r.e) h)
  | h, [], i, hi => by simp at hi
  | h, r :: rs, 0, hi => by simp [earl]
  | h, r :: rs, i + 1, hi => by
    have := earl_at (max h r.e) rs i (by simpa using hi)
    simp [earl, this]
theorem latR_at : ∀ (h : Int) (rs : List Row) (i : Nat), i < rs.length → (latR h rs)[i]? = some ((rs.take (i + 1)).foldl (fun h r => min h r.l) h)
  | h, [], i, hi => by simp at hi
  | h, r :: rs, 0, hi => by simp [latR]
  | h, r :: rs, i + 1, hi => by
    have := latR_at (min h r.l) rs i (by simpa using hi)
    simp [latR, this]
theorem late_at (rs : List Row) (i : Nat) (hi : i < rs.length) : ((latR 999 rs.reverse).reverse)[i]? = some (mnL (rs.drop i)) := by
  rw [List.getElem?_reverse (by rw [latR_len]; simpa using hi), latR_len, List.length_reverse, latR_at _ _ _ (by simp; omega)]
  have e : rs.length - 1 - i + 1 = rs.length - i := by omega
  rw [e, List.take_reverse, List.foldl_reverse]
  have e2 : rs.length - (rs.length - i) = i := by omega
  rw [e2]
  unfold mnL
  congr 2
  funext r h
  exact Int.min_comm _ _
def strE (rs : List Row) (p : Nat) : D := .tup [eO (kd rs p), .int (soon rs p), .int (ends rs p)]
theorem soonL (rs : List Row) : (0 :: earl 0 rs) = (List.range (rs.length + 1)).map (soon rs) := by
  apply List.ext_getElem?
  intro i
  cases i with
  | zero => simp [soon]
  | succ i =>
    rw [List.getElem?_cons_succ]
    by_cases h : i < rs.length
    · rw [earl_at _ _ _ h, List.getElem?_map, List.getElem?_range (by omega)]; rfl
    · rw [List.getElem?_eq_none (by rw [earl_len]; omega), List.getElem?_eq_none (by simp; omega)]
theorem endsL (rs : List Row) : ((latR 999 rs.reverse).reverse ++ [1000]) = (List.range (rs.length + 1)).map (ends rs) := by
  apply List.ext_getElem?
  intro i
  have hlen : (latR 999 rs.reverse).reverse.length = rs.length := by simp [latR_len]
  by_cases h : i < rs.length
  · rw [List.getElem?_append_left (by rw [hlen]; exact h), late_at _ _ h, List.getElem?_map, List.getElem?_range (by omega)]
    simp [ends, h]
  · rw [List.getElem?_append_right (by rw [hlen]; omega), hlen, List.getElem?_map]
    by_cases h2 : i = rs.length
    · subst h2; rw [List.getElem?_range (by omega)]; simp [ends]
    · rw [List.getElem?_eq_none (by simp; omega), List.getElem?_eq_none (by simp; omega)]; rfl
theorem kdL (rs : List Row) : (none :: rs.map (·.w)) = (List.range (rs.length + 1)).map (kd rs) := by
  apply List.ext_getElem?
  intro i
  cases i with
  | zero => simp [kd]
  | succ i =>
    rw [List.getElem?_cons_succ, List.getElem?_map, List.getElem?_map]
    by_cases h : i < rs.length
    · rw [List.getElem?_range (by omega), List.getElem?_eq_getElem h]; simp [kd, h]
    · rw [List.getElem?_eq_none (by omega), List.getElem?_eq_none (by simp; omega)]; rfl
theorem zip3_map {α : Type} (f g h : α → D) : ∀ l : List α, zip3D (l.map f) (l.map g) (l.map h) = l.map fun x => .tup [f x, g x, h x]
  | [] => rfl
  | x :: l => by simp [zip3D, zip3_map f g h l]
theorem stretches_eq (rs : List Row) (o : Om) (hl : rs.length ≤ 1000) : phi_stretches [eRows rs] o = .ok (.lst ((List.range (rs.length + 1)).map (strE rs))) o := by
  refine def_ok ?_
  unfold den_stretches
  have h1 : rs.length + 1 ≤ 100000 := by omega
  have h2 : 1 + rs.length ≤ 100000 := by omega
  simp [earliest_eq rs o hl, latest_eq rs o hl, earl_len, latR_len, h1, h2]
  unfold eRows
  rw [lc_l eRow rs (by omega) (fun _ => true) (·.w) eO]
  · simp
    have e1 := kdL rs
    have e2 := soonL rs
    have e3 := endsL rs
    have f1 : (D.non :: rs.map (eO ∘ fun x => x.w)) = (List.range (rs.length + 1)).map fun p => eO (kd rs p) := by
      have := congrArg (List.map eO) e1
      simpa [List.map_map, Function.comp_def, eO] using this
    have f2 : (D.int 0 :: (earl 0 rs).map D.int) = (List.range (rs.length + 1)).map fun p => D.int (soon rs p) := by
      have := congrArg (List.map D.int) e2
      simpa [List.map_map, Function.comp_def] using this
    have f3 : ((latR 999 rs.reverse).map D.int).reverse ++ [D.int 1000] = (List.range (rs.length + 1)).map fun p => D.int (ends rs p) := by
      have := congrArg (List.map D.int) e3
      simpa [List.map_map, Function.comp_def] using this
    simp [h2]
    rw [f1, f2, f3]
    simp [opLZip, zip3_map, h1]
    exact fun _ _ => rfl
  · intro x hx
    exact ⟨_, rfl, rfl, fun _ => by simp [eRow, wipeE]⟩
/-! the places that a moment may lie in -/
def poss (rs : List Row) (m : Int) (p : Nat) : Bool := decide (soon rs p ≤ m) && decide (m < ends rs p)
def places (rs : List Row) (m : Int) : List Nat := (List.range (rs.length + 1)).filter (poss rs m)
def eN (n : Nat) : D := .int (n : Int)
theorem possible_eq (rs : List Row) (m : Int) (o : Om) (hl : rs.length ≤ 1000) : phi_possible [eRows rs, .int m] o = .ok (.lst ((places rs m).map eN)) o := by
  refine def_ok ?_
  unfold den_possible
  have h1 : rs.length + 1 ≤ 100000 := by omega
  have h3 : (-100000 : Int) ≤ rs.length + 1 := by omega
  have h4 : (rs.length : Int) + 1 ≤ 100000 := by omega
  simp [stretches_eq rs o hl, h3, h4]
  rw [lc_r (rs.length + 1) h1 (poss rs m) id eN]
  · simp [places]
  · intro x hx
    refine ⟨_, rfl, ?_, fun _ => rfl⟩
    simp [wipeE, atI_nat, List.getElem?_range hx, strE, poss]
    by_cases q : soon rs x ≤ m <;> simp [q]
/-! ### the entries, one behind the other -/
def fit1 (h : Int) : List Row → Bool
  | [] => true
  | r :: rs => decide (max h r.e ≤ r.l) && fit1 (max h r.e) rs
/-- all can be begun -/
def Fit (rs : List Row) : Prop := ∀ p, p < rs.length → soon rs (p + 1) ≤ (rs[p]?).elim 0 (·.l)
theorem earl_get (rs : List Row) (p : Nat) (h : p < rs.length) : (earl 0 rs)[p]? = some (soon rs (p + 1)) := earl_at 0 rs p h
theorem first_bad_fit (rs : List Row) (o : Om) (hl : rs.length ≤ 1000) (hf : Fit rs) : phi_first_bad [eRows rs] o = .ok .non o := by
  refine def_ok ?_
  unfold den_first_bad
  have h3 : (-100000 : Int) ≤ rs.length := by omega
  have h4 : (rs.length : Int) ≤ 100000 := by omega
  simp [earliest_eq rs o hl, h3, h4]
  refine W_rng0 rs.length (fun i ρ o1 => o1 = o ∧ ∃ a, ρ = [.d (eRows rs), .d (.lst ((earl 0 rs).map .int)), a]) ⟨rfl, _, rfl⟩ ?_ ?_
  · rintro i ρ o1 hi ⟨rfl, a, rfl⟩
    refine ⟨_, rfl, ?_⟩
    have hf' := hf i hi
    rw [List.getElem?_eq_getElem hi] at hf'
    have hn : ¬ (rs[i].l < soon rs (i + 1)) := by simp at hf'; omega
    simp [atI_nat, earl_get rs i hi, List.getElem?_eq_getElem hi, eRow, hn]
  · rintro ρ o1 ⟨rfl, a, rfl⟩
    simp
theorem fits_fit (rs : List Row) (o : Om) (hl : rs.length ≤ 1000) : ∃ d, phi_l_fits [eRows rs] o = .ok d o ∧ (d = .non ↔ Fit rs) ∧ (d = .non ∨ ∃ i : Int, d = .int i) := by
  have : V (fun d o1 => o1 = o ∧ ((d = .non ∧ Fit rs) ∨ ((∃ i : Int, d = .int i) ∧ ¬ Fit rs))) (fun _ _ => False) (phi_l_fits [eRows rs] o) := by
    refine def_V ?_
    unfold den_l_fits
    have h3 : (-100000 : Int) ≤ rs.length := by omega
    have h4 : (rs.length : Int) ≤ 100000 := by omega
    simp [h3, h4]
    refine W_rng0 rs.length (fun i ρ o1 => o1 = o ∧ (∀ p, p < i → soon rs (p + 1) ≤ (rs[p]?).elim 0 (·.l)) ∧ ∃ a, ρ = [.d (eRows rs), .d (.int (soon rs i)), a]) ⟨rfl, fun p hp => by omega, _, rfl⟩ ?_ ?_
    · rintro i ρ o1 hi ⟨rfl, hp, a, rfl⟩
      refine ⟨_, rfl, ?_⟩
      have e : max (soon rs i) rs[i].e = soon rs (i + 1) := by
        unfold soon
        rw [List.take_add_one, List.getElem?_eq_getElem hi, List.foldl_append]
        rfl
      simp [atI_nat, List.getElem?_eq_getElem hi, eRow, e]
      by_cases q : rs[i].l < soon rs (i + 1)
      · simp [q]
        intro hF
        have := hF i hi
        rw [List.getElem?_eq_getElem hi] at this
        simp at this
        omega
      · simp [q]
        intro p hp2
        rcases Nat.lt_or_ge p i with h | h
        · exact hp p h
        · have e2 : p = i := by omega
          subst e2
          rw [List.getElem?_eq_getElem hi]
          simp
          omega
    · rintro ρ o1 ⟨rfl, hp, a, rfl⟩
      simp
      exact hp
  cases q : phi_l_fits [eRows rs] o with
  | ok d o1 =>
    rw [q] at this
    obtain ⟨rfl, h⟩ := this
    rcases h with ⟨rfl, h⟩ | ⟨⟨i, rfl⟩, h⟩
    · exact ⟨.non, rfl, ⟨fun _ => h, fun _ => rfl⟩, .inl rfl⟩
    · exact ⟨.int i, rfl, ⟨fun z => (nomatch z), fun z => (h z).elim⟩, .inr ⟨i, rfl⟩⟩
  | exc x o1 => rw [q] at this; exact this.elim
  | bad => rw [q] at this; exact this.elim
end KR
set_option Elab.async false
set_option linter.all false
set_option maxRecDepth 100000
set_option maxHeartbeats 2000000
namespace KR
open PySem L2
structure Key where
  opens : List Int
  plain : Bool
  rows : List Row
structure Bk where
  many : Nat
  doors : List (List Row)
  keys : List Key
def bkF (b : Nat) (m : Nat) : List (Str × D) := [("many", .int m), ("doors", .obj (b + 1)), ("opens", .obj (b + 2)), ("plain", .obj (b + 3)), ("rows", .obj (b + 4))]
def eTs (ns : List Int) : D := .tup (ns.map .int)
structure BkAt (o : Om) (b : Nat) (B : Bk) : Prop where
  i0 : o[b]? = some (.ins (bkF b B.many))
  i1 : o[b + 1]? = some (.ml (B.doors.map eRows))
  i2 : o[b + 2]? = some (.ml (B.keys.map fun k => eTs k.opens))
  i3 : o[b + 3]? = some (.ml (B.keys.map fun k => .bl k.plain))
  i4 : o[b + 4]? = some (.ml (B.keys.map fun k => eRows k.rows))
section
variable (b m : Nat)
@[simp] theorem lk_many : List.lookup ("many" : Str) (bkF b m) = some (.int m) := rfl
@[simp] theorem lk_doors : List.lookup ("doors" : Str) (bkF b m) = some (.obj (b + 1)) := rfl
@[simp] theorem lk_opens : List.lookup ("opens" : Str) (bkF b m) = some (.obj (b + 2)) := rfl
@[simp] theorem lk_plain : List.lookup ("plain" : Str) (bkF b m) = some (.obj (b + 3)) := rfl
@[simp] theorem lk_rows : List.lookup ("rows" : Str) (bkF b m) = some (.obj (b + 4)) := rfl
@[simp] theorem lk_1 : List.lookup ("need_key" : Str) (bkF b m) = none := rfl
@[simp] theorem lk_2 : List.lookup ("need_door" : Str) (bkF b m) = none := rfl
@[simp] theorem lk_3 : List.lookup ("need_person" : Str) (bkF b m) = none := rfl
@[simp] theorem lk_4 : List.lookup ("who" : Str) (bkF b m) = none := rfl
@[simp] theorem lk_5 : List.lookup ("kinds" : Str) (bkF b m) = none := rfl
@[simp] theorem lk_6 : List.lookup ("holders" : Str) (bkF b m) = none := rfl
@[simp] theorem lk_7 : List.lookup ("locks" : Str) (bkF b m) = none := rfl
@[simp] theorem lk_8 : List.lookup ("cut" : Str) (bkF b m) = none := rfl
@[simp] theorem lk_9 : List.lookup ("hand" : Str) (bkF b m) = none := rfl
@[simp] theorem lk_10 : List.lookup ("fit" : Str) (bkF b m) = none := rfl
@[simp] theorem lk_11 : List.lookup ("entries" : Str) (bkF b m) = none := rfl
@[simp] theorem lk_12 : List.lookup ("fitted" : Str) (bkF b m) = none := rfl
end
section
variable {o : Om} {b : Nat} {B : Bk} (h : BkAt o b B)
include h
theorem BkAt.fv : KR.fv o (.obj b) = some (b, bkF b B.many) := fv_obj h.i0
theorem BkAt.q1 : qv o (.obj (b + 1)) = some (B.doors.map eRows) := qv_obj h.i1
theorem BkAt.q2 : qv o (.obj (b + 2)) = some (B.keys.map fun k => eTs k.opens) := qv_obj h.i2
theorem BkAt.q3 : qv o (.obj (b + 3)) = some (B.keys.map fun k => .bl k.plain) := qv_obj h.i3
theorem BkAt.q4 : qv o (.obj (b + 4)) = some (B.keys.map fun k => eRows k.rows) := qv_obj h.i4
theorem need_key_eq (n : Nat) (hn : n < B.keys.length) : phi_Book_need_key [.obj b, .int n] o = .ok .non o := by
  refine def_ok ?_
  unfold den_Book_need_key
  have h2 : (0 : Int) ≤ n := by omega
  simp [h.fv, h.q4, hn, h2]
theorem need_door_eq (n : Nat) (hn : n < B.doors.length) : phi_Book_need_door [.obj b, .int n] o = .ok .non o := by
  refine def_ok ?_
  unfold den_Book_need_door
  have h2 : (0 : Int) ≤ n := by omega
  simp [h.fv, h.q1, hn, h2]
theorem need_person_eq (n : Nat) (hn : n < B.many) : phi_Book_need_person [.obj b, .int n] o = .ok .non o := by
  refine def_ok ?_
  unfold den_Book_need_person
  have h2 : (0 : Int) ≤ n := by omega
  simp [h.fv, hn, h2]
end
theorem need_moment_eq (m : Int) (o : Om) (h : 0 ≤ m ∧ m ≤ 999) : phi_need_moment [.int m] o = .ok .non o := by
  refine def_ok ?_
  unfold den_need_moment
  simp [h.1, h.2]
theorem need_place_eq (rs : List Row) (n : Nat) (o : Om) (h : n ≤ rs.length) (h2 : rs.length < 8) : phi_need_place [eRows rs, .int n] o = .ok .non o := by
  refine def_ok ?_
  unfold den_need_place
  have h3 : (0 : Int) ≤ n := by omega
  have h4 : ¬ rs.length = 8 := by omega
  have h5 : PyData.eqv (.int (rs.length : Nat)) (.int 8) = false := by
    show (((rs.length : Nat) : Int) == 8) = false
    exact beq_eq_false_iff_ne.mpr (by omega)
  have h6 : opEq o (.int (rs.length : Nat)) (.int 8) = some (.bl false) := by
    show some (D.bl (PyData.eqv (.int (rs.length : Nat)) (.int 8))) = _
    rw [h5]
  simp [h, h3, h6]
/-! ### equality -/
theorem eq_ints (o : Om) (i j : Int) : opEq o (.int i) (.int j) = some (.bl (i == j)) := rfl
theorem ne_ints (o : Om) (i j : Int) : opNe o (.int i) (.int j) = some (.bl (!(i == j))) := rfl
theorem eq_eO (o : Om) (w : Option Int) (j : Int) : opEq o (eO w) (.int j) = some (.bl (w == some j)) := by
  cases w with
  | none => rfl
  | some i =>
    show some (D.bl (i == j)) = some (.bl (some i == some j))
    rfl
theorem ne_eO (o : Om) (w v : Option Int) : opNe o (eO w) (eO v) = some (.bl (!(w == v))) := by
  cases w <;> cases v <;> rfl
theorem toPy_int (o : Om) (k : Nat) (i : Int) : toPy o (k + 1) (.int i) = some (.int i) := rfl
theorem toPy_non (o : Om) (k : Nat) : toPy o (k + 1) .non = some .none := rfl
theorem toPy_lst (o : Om) (k : Nat) (xs : List D) : toPy o (k + 1) (.lst xs) = (xs.mapM (toPy o k)).map .list := rfl
theorem toPy_tup (o : Om) (k : Nat) (xs : List D) : toPy o (k + 1) (.tup xs) = (xs.mapM (toPy o k)).map .tuple := rfl
theorem opEq_of {o : Om} {x y : D} {p q : PyData} (h : toPy o 9 x = some p) (h2 : toPy o 9 y = some q) : opEq o x y = some (.bl (PyData.eqv p q)) := by unfold opEq; rw [h, h2]
theorem opNe_of {o : Om} {x y : D} {p q : PyData} (h : toPy o 9 x = some p) (h2 : toPy o 9 y = some q) : opNe o x y = some (.bl (!PyData.eqv p q)) := by unfold opNe; rw [h, h2]
theorem toPy_ints (o : Om) (k : Nat) (ns : List Int) : (ns.map D.int).mapM (toPy o (k + 1)) = some (ns.map PyData.int) := by
  induction ns with
  | nil => rfl
  | cons a r ih => rw [List.map_cons, List.mapM_cons, ih, toPy_int]; rfl
theorem toPy_eOs (o : Om) (k : Nat) (ns : List (Option Int)) : ∃ ps, (ns.map eO).mapM (toPy o (k + 1)) = some ps ∧ ps.length = ns.length := by
  induction ns with
  | nil => exact ⟨[], rfl, rfl⟩
  | cons a r ih =>
    obtain ⟨ps, h1, h2⟩ := ih
    cases a with
    | none => exact ⟨.none :: ps, by rw [List.map_cons, List.mapM_cons, h1]; rfl, by simp [h2]⟩
    | some i => exact ⟨.int i :: ps, by rw [List.map_cons, List.mapM_cons, h1]; rfl, by simp [h2]⟩
theorem eqvAll_nil (ps : List PyData) : PyData.eqvAll ps [] = ps.isEmpty := by cases ps <;> rfl
theorem lst_ints (o : Om) (ns : List Int) : toPy o 9 (.lst (ns.map .int)) = some (.list (ns.map .int)) := by rw [toPy_lst, toPy_ints]; rfl
theorem lst_nil (o : Om) : toPy o 9 (.lst []) = some (.list []) := lst_ints o []
theorem eq_nil (o : Om) (ns : List Int) : opEq o (.lst (ns.map .int)) (.lst []) = some (.bl ns.isEmpty) := by
  rw [opEq_of (lst_ints o ns) (lst_nil o)]
  show some (D.bl (PyData.eqvAll (ns.map PyData.int) [])) = _
  rw [eqvAll_nil]
  cases ns <;> rfl
theorem ne_nil (o : Om) (ns : List Int) : opNe o (.lst (ns.map .int)) (.lst []) = some (.bl (!ns.isEmpty)) := by
  rw [opNe_of (lst_ints o ns) (lst_nil o)]
  show some (D.bl (!PyData.eqvAll (ns.map PyData.int) [])) = _
  rw [eqvAll_nil]
  cases ns <;> rfl
theorem map_eN (ns : List Nat) : ns.map eN = (ns.map fun n : Nat => (n : Int)).map D.int := by simp [eN]
theorem eq_nilN (o : Om) (ns : List Nat) : opEq o (.lst (ns.map eN)) (.lst []) = some (.bl ns.isEmpty) := by rw [map_eN, eq_nil]; cases ns <;> rfl
theorem ne_nilN (o : Om) (ns : List Nat) : opNe o (.lst (ns.map eN)) (.lst []) = some (.bl (!ns.isEmpty)) := by rw [map_eN, ne_nil]; cases ns <;> rfl
theorem eqvAll_ints : ∀ xs ys : List Int, PyData.eqvAll (xs.map .int) (ys.map .int) = (xs == ys)
  | [], [] => rfl
  | [], _ :: _ => rfl
  | _ :: _, [] => rfl
  | x :: xs, y :: ys => by
    show ((x == y) && PyData.eqvAll (xs.map .int) (ys.map .int)) = ((x == y) && (xs == ys))
    rw [eqvAll_ints xs ys]
theorem eq_lints (o : Om) (xs ys : List Int) : opEq o (.lst (xs.map .int)) (.lst (ys.map .int)) = some (.bl (xs == ys)) := by
  rw [opEq_of (lst_ints o xs) (lst_ints o ys)]
  show some (D.bl (PyData.eqvAll (xs.map PyData.int) (ys.map PyData.int))) = _
  rw [eqvAll_ints]
theorem bcomm (a b : Int) : (a == b) = (b == a) := by
  by_cases h : a = b
  · rw [h]
  · rw [beq_eq_false_iff_ne.mpr h, beq_eq_false_iff_ne.mpr (Ne.symm h)]
theorem inD_ints (i : Int) : ∀ ns : List Int, inD (.int i) (ns.map .int) = ns.contains i
  | [] => rfl
  | a :: r => by
    rw [List.contains_cons, ← inD_ints i r]
    show ((a == i) || inD (.int i) (r.map .int)) = _
    rw [bcomm]
theorem flat_ints (ns : List Int) : (ns.map D.int).all flatD = true := by
  rw [List.all_map]
  exact List.all_eq_true.mpr fun w _ => rfl
theorem in_ints (o : Om) (i : Int) (ns : List Int) : opIn o (.int i) (.lst (ns.map .int)) = some (.bl (ns.contains i)) := by
  show (if flatD (.int i) = true ∧ (ns.map D.int).all flatD = true then some (D.bl (inD (.int i) (ns.map .int))) else none) = _
  rw [if_pos ⟨rfl, flat_ints ns⟩, inD_ints]
theorem notIn_ints (o : Om) (i : Int) (ns : List Int) : opNotIn o (.int i) (.lst (ns.map .int)) = some (.bl (!ns.contains i)) := by
  show (if flatD (.int i) = true ∧ (ns.map D.int).all flatD = true then some (D.bl (!inD (.int i) (ns.map .int))) else none) = _
  rw [if_pos ⟨rfl, flat_ints ns⟩, inD_ints]
theorem in_tints (o : Om) (i : Int) (ns : List Int) : opIn o (.int i) (eTs ns) = some (.bl (ns.contains i)) := by
  have := in_ints o i ns
  unfold opIn at this ⊢
  exact this
theorem inD_eO (w : Option Int) : ∀ ws : List (Option Int), inD (eO w) (ws.map eO) = ws.contains w
  | [] => rfl
  | a :: r => by
    rw [List.contains_cons, ← inD_eO w r]
    show (eqF (eO a) (eO w) || inD (eO w) (r.map eO)) = _
    have e : eqF (eO a) (eO w) = (w == a) := by
      cases a <;> cases w <;> try rfl
      rename_i x y
      show (x == y) = (some y == some x)
      show (x == y) = (y == x)
      exact bcomm x y
    rw [e]
theorem flat_eOs (ws : List (Option Int)) : (ws.map eO).all flatD = true := by
  rw [List.all_map]
  exact List.all_eq_true.mpr fun w _ => by cases w <;> rfl
theorem in_eOs (o : Om) (w : Option Int) (ws : List (Option Int)) : opIn o (eO w) (.lst (ws.map eO)) = some (.bl (ws.contains w)) := by
  have hf : flatD (eO w) = true := by cases w <;> rfl
  show (if flatD (eO w) = true ∧ (ws.map eO).all flatD = true then some (D.bl (inD (eO w) (ws.map eO))) else none) = _
  rw [if_pos ⟨hf, flat_eOs ws⟩, inD_eO]
end KR
set_option Elab.async false
set_option linter.all false
set_option maxRecDepth 100000
set_option maxHeartbeats 2000000
namespace KR
open PySem L2
def wat (rs : List Row) (p : Nat) : Option Int := if 0 < p then (rs[p - 1]?).bind (·.w) else some (-1)
/-- by the stretches that a moment may lie in: who has it, -1 for nobody -/
def whoS (rs : List Row) (m : Int) : List (Option Int) := (places rs m).map (wat rs)
def aloneOf : List (Option Int) → Bool
  | some x :: r => r.all (· == some x) && decide (0 ≤ x)
  | _ => false
def sureOf : List (Option Int) → Option Int
  | some x :: r => if (r.all (· == some x) && decide (0 ≤ x)) = true then some x else none
  | _ => none
def everyOf (n : Nat) (ws : List (Option Int)) : List Nat := (List.range n).filter fun p => ws.contains (some (p : Int)) || ws.contains none
theorem places_len (rs : List Row) (m : Int) : (places rs m).length ≤ rs.length + 1 := by
  unfold places
  exact Nat.le_trans (List.length_filter_le _ _) (by simp)
theorem mem_places {rs : List Row} {m : Int} {p : Nat} : p ∈ places rs m ↔ p ≤ rs.length ∧ soon rs p ≤ m ∧ m < ends rs p := by
  unfold places poss
  rw [List.mem_filter, List.mem_range, Bool.and_eq_true, decide_eq_true_eq, decide_eq_true_eq]
  omega
theorem dd_one {α : Type} [DecidableEq α] (l : List α) : (dd l).length = 1 ↔ ∃ x r, l = x :: r ∧ ∀ y ∈ r, y = x := by
  constructor
  · intro h
    obtain ⟨x, hx⟩ := List.length_eq_one_iff.mp h
    have hm : ∀ y, y ∈ l → y = x := fun y hy => by
      have := (mem_dd l y).2 hy
      rw [hx, List.mem_singleton] at this
      exact this
    cases l with
    | nil => simp [dd] at hx
    | cons a r =>
      have ha := hm a List.mem_cons_self
      subst ha
      exact ⟨a, r, rfl, fun y hy => hm y (List.mem_cons_of_mem _ hy)⟩
  · rintro ⟨x, r, rfl, hr⟩
    have hm : ∀ y, y ∈ dd (x :: r) → y = x := fun y hy => by
      have := (mem_dd _ y).1 hy
      rcases List.mem_cons.mp this with e | e
      · exact e
      · exact hr y e
    have hx : x ∈ dd (x :: r) := (mem_dd _ x).2 List.mem_cons_self
    have nd := nodup_dd (x :: r)
    generalize dd (x :: r) = d at hm hx nd
    match d, hm, hx, nd with
    | [], _, hx, _ => cases hx
    | [a], _, _, _ => rfl
    | a :: b :: t, hm, _, nd =>
      have h1 := hm a List.mem_cons_self
      have h2 := hm b (List.mem_cons_of_mem _ List.mem_cons_self)
      rw [h1, h2] at nd
      simp at nd
def zO : Option Int → ZK
  | none => .non
  | some i => .int i
theorem zO_inj {a b : Option Int} (h : zO a = zO b) : a = b := by cases a <;> cases b <;> simp [zO] at h ⊢ <;> exact h
theorem allZ_eO : ∀ ws : List (Option Int), allZ (ws.map eO) = some (ws.map zO)
  | [] => rfl
  | w :: r => by
    rw [List.map_cons, allZ, allZ_eO r]
    cases w <;> rfl
theorem lset_eO (o : Om) (ws : List (Option Int)) (h : ws.length < 4000) : opLSet o (.lst (ws.map eO)) = some (.int (dd (ws.map zO)).length) := by
  show (allZ (ws.map eO)).bind _ = _
  rw [allZ_eO]
  show (if (ws.map zO).length < 4000 then some (D.int (dd (ws.map zO)).length) else none) = _
  rw [if_pos (by rw [List.length_map]; exact h)]
theorem dd_ws (ws : List (Option Int)) : (dd (ws.map zO)).length = 1 ↔ ∃ x r, ws = x :: r ∧ ∀ y ∈ r, y = x := by
  rw [dd_one]
  constructor
  · rintro ⟨k, r, e, hr⟩
    cases ws with
    | nil => cases e
    | cons w t =>
      simp only [List.map_cons, List.cons.injEq] at e
      obtain ⟨rfl, rfl⟩ := e
      exact ⟨w, t, rfl, fun y hy => zO_inj (hr _ (List.mem_map.mpr ⟨y, hy, rfl⟩))⟩
  · rintro ⟨w, t, rfl, hr⟩
    refine ⟨zO w, t.map zO, rfl, fun y hy => ?_⟩
    obtain ⟨z, hz, rfl⟩ := List.mem_map.mp hy
    rw [hr z hz]
/-- the test for a sure one -/
theorem alone_eq (o : Om) (ρ : Rho) (i : Nat) (ws : List (Option Int)) (hρ : ρ[i]? = some (.d (.lst (ws.map eO)))) (hl : ws.length < 4000) :
    dAndV (d2 opEq (d1 opLSet (dVar i)) (dC (.int 1))) (dAndV (d2 opIsNot (d2 opIx (dVar i) (dC (.int 0))) (dC .non)) (d2 opGe (d2 opIx (dVar i) (dC (.int 0))) (dC (.int 0)))) ρ o = .ok (.bl (aloneOf ws)) o := by
  simp [hρ, lset_eO o ws hl, eq_ints]
  by_cases q : (dd (ws.map zO)).length = 1
  · have q2 := q
    obtain ⟨x, r, rfl, hr⟩ := (dd_ws ws).1 q2
    rw [q]
    simp
    cases x with
    | none => simp [eO, isN, aloneOf]
    | some x =>
      have ha : r.all (· == some x) = true := List.all_eq_true.mpr fun y hy => by rw [hr y hy]; exact beq_self_eq_true _
      simp [eO, isN, aloneOf, ha]
  · rw [if_neg (by omega)]
    cases ws with
    | nil => rfl
    | cons w t =>
      cases w with
      | none => rfl
      | some x =>
        have : ¬ ∀ y ∈ t, y = some x := fun hh => q ((dd_ws _).2 ⟨_, _, rfl, hh⟩)
        simp [aloneOf]
        intro hh
        exact (this hh).elim
theorem elt_wat (o : Om) (rs : List Row) (ρ : Rho) (i j : Nat) (p : Nat) (hp : p ≤ rs.length) (h1 : ρ[i]? = some (.d (eRows rs))) (h2 : ρ[j]? = some (.d (eN p))) :
    dIf (dT (d2 opGt (dVar j) (dC (.int 0)))) (d2 opIx (d2 opIx (dVar i) (d2 opSub (dVar j) (dC (.int 1)))) (dC (.int 0))) (d1 opNeg (dC (.int 1))) ρ o = .ok (eO (wat rs p)) o := by
  simp [h1, h2, eN]
  cases p with
  | zero => simp [wat, eO]
  | succ q =>
    have hq : q < rs.length := by omega
    have e : ((q + 1 : Nat) : Int) - 1 = (q : Int) := by omega
    have e2 : (0 : Int) < ((q + 1 : Nat) : Int) := by omega
    simp [wat]
    have e3 : (q : Int) + 1 - 1 = (q : Int) := by omega
    simp [e3, atI_nat, List.getElem?_eq_getElem hq, eRow]
theorem who_eq {o : Om} {b : Nat} {B : Bk} (h : BkAt o b B) (n : Nat) (k : Key) (hk : B.keys[n]? = some k) (hl : k.rows.length ≤ 8) (hm : B.many ≤ 8) (m : Int) :
    phi_Book_who [.obj b, .int n, .int m] o = .ok (.tup [eO (sureOf (whoS k.rows m)), .lst ((everyOf B.many (whoS k.rows m)).map eN)]) o := by
  have hw : (whoS k.rows m).length < 4000 := by
    unfold whoS
    rw [List.length_map]
    have := places_len k.rows m
    omega
  refine def_ok ?_
  unfold den_Book_who
  simp [-ev_AndV, h.fv, h.q4, atI_nat, hk, possible_eq k.rows m o (by omega)]
  rw [lc_l eN (places k.rows m) (by have := places_len k.rows m; omega) (fun _ => true) (wat k.rows) eO]
  · have e0 : ((places k.rows m).filter fun _ => true).map (wat k.rows) = whoS k.rows m := by rw [filt_true]; rfl
    rw [e0]
    have hm1 : (-100000 : Int) ≤ B.many := by omega
    have hm2 : (B.many : Int) ≤ 100000 := by omega
    simp only [V_ok, W_then, ev_Asg, W_bindS, ev_Lc, ev_Lc0, ev_iR1, V_bind, ev_Fld, ev_Var, List.set_cons_succ, List.set_cons_zero, pf_Nm, W_nx, List.getElem?_cons_succ, List.getElem?_cons_zero, h.fv, lk_many, Res.of_some, hm1, hm2, and_self, if_true, Int.toNat_natCast]
    rw [lc_r B.many (by omega) (fun p => (whoS k.rows m).contains (some (p : Int)) || (whoS k.rows m).contains none) id eN]
    · simp only [V_ok, List.map_id, W_nx, pf_Nm, List.set_cons_succ, List.set_cons_zero, W_bindS, ev_Ret]
      rw [alone_eq o _ 4 (whoS k.rows m) (by simp) hw]
      simp
      cases e : whoS k.rows m with
      | nil => simp [aloneOf, sureOf, eO, everyOf]
      | cons w t =>
        cases w with
        | none => simp [aloneOf, sureOf, eO, everyOf]
        | some x =>
          cases q : (t.all (· == some x) && decide (0 ≤ x)) with
          | true => simp only [aloneOf, sureOf, q]; simp [eO, everyOf]
          | false => simp only [aloneOf, sureOf, q]; simp [eO, everyOf]
    · intro x hx
      refine ⟨_, rfl, ?_, fun _ => rfl⟩
      have e1 := in_eOs o (some (x : Int)) (whoS k.rows m)
      have e2 := in_eOs o none (whoS k.rows m)
      simp only [eO] at e1 e2
      simp [wipeE, e1, e2]
      cases q : (whoS k.rows m).contains (some (x : Int)) <;> simp_all
  · intro p hp
    refine ⟨_, rfl, rfl, fun _ => elt_wat o k.rows _ 3 7 p ((mem_places.mp hp).1) (by simp [wipeE]) (by simp [wipeE])⟩
end KR
set_option Elab.async false
set_option linter.all false
set_option maxRecDepth 100000
set_option maxHeartbeats 2000000
namespace KR
open PySem L2
theorem atI_succ {α : Type} (xs : List α) (i : Nat) : L2.atI xs ((i : Int) + 1) = xs[i + 1]? := atI_nat xs (i + 1)
/-! ### locks -/
def Door (rs : List Row) : Prop := ∀ r ∈ rs, ∃ k : Int, r.w = some k
def watI (rs : List Row) (p : Nat) : Int := (wat rs p).getD 0
def kindsOf (rs : List Row) (m : Int) : List Int := srtI (dd ((places rs m).map (watI rs)))
theorem wat_door {rs : List Row} (h : Door rs) {p : Nat} (hp : p ≤ rs.length) : wat rs p = some (watI rs p) := by
  unfold watI
  cases p with
  | zero => rfl
  | succ q =>
    have hq : q < rs.length := by omega
    obtain ⟨k, hk⟩ := h rs[q] (List.getElem_mem hq)
    have e : wat rs (q + 1) = some k := by simp [wat, List.getElem?_eq_getElem hq, hk]
    rw [e]; rfl
theorem whoS_door {rs : List Row} (h : Door rs) (m : Int) : (whoS rs m).map eO = ((places rs m).map (watI rs)).map D.int := by
  unfold whoS
  rw [List.map_map, List.map_map]
  refine List.map_congr_left fun p hp => ?_
  show eO (wat rs p) = D.int (watI rs p)
  rw [wat_door h (mem_places.mp hp).1]; rfl
theorem allI_ints : ∀ ns : List Int, allI (ns.map .int) = some ns
  | [] => rfl
  | n :: r => by rw [List.map_cons, allI, allI_ints r]; rfl
theorem sset_dd (o : Om) (ns : List Int) (h : (dd ns).length < 64) : opSSet o (.lst (ns.map .int)) = some (.lst ((srtI (dd ns)).map .int)) := by
  show (allI (ns.map .int)).bind _ = _
  rw [allI_ints]
  show (if (dd ns).length < 64 then some (D.lst ((srtI (dd ns)).map .int)) else none) = _
  rw [if_pos h]
theorem sset_ints (o : Om) (ns : List Int) (h : ns.length < 64) : opSSet o (.lst (ns.map .int)) = some (.lst ((srtI (dd ns)).map .int)) := sset_dd o ns (Nat.lt_of_le_of_lt (len_dd ns) h)
theorem kinds_eq {o : Om} {b : Nat} {B : Bk} (h : BkAt o b B) (n : Nat) (rs : List Row) (hk : B.doors[n]? = some rs) (hl : rs.length ≤ 8) (hd : Door rs) (m : Int) :
    phi_Book_kinds [.obj b, .int n, .int m] o = .ok (.lst ((kindsOf rs m).map .int)) o := by
  have hp := places_len rs m
  refine def_ok ?_
  unfold den_Book_kinds
  simp [h.fv, h.q1, atI_nat, hk, possible_eq rs m o (by omega)]
  rw [lc_l eN (places rs m) (by omega) (fun _ => true) (wat rs) eO]
  · have e0 : ((places rs m).filter fun _ => true).map (wat rs) = whoS rs m := by rw [filt_true]; rfl
    rw [e0, whoS_door hd]
    simp
    rw [← List.map_map, sset_ints o ((places rs m).map (watI rs)) (by rw [List.length_map]; omega)]
    simp [kindsOf]
  · intro p hp
    exact ⟨_, rfl, rfl, fun _ => elt_wat o rs _ 3 5 p ((mem_places.mp hp).1) (by simp [wipeE]) (by simp [wipeE])⟩
theorem holders_eq {o : Om} {b : Nat} {B : Bk} (h : BkAt o b B) (n : Nat) (k : Key) (hk : B.keys[n]? = some k) (hl : k.rows.length ≤ 8) (hm : B.many ≤ 8) (m : Int) (h0 : 0 ≤ m ∧ m ≤ 999) :
    phi_Book_holders [.obj b, .int n, .int m] o = .ok (.tup [eO (sureOf (whoS k.rows m)), .lst ((everyOf B.many (whoS k.rows m)).map eN)]) o := by
  have hn : n < B.keys.length := (List.getElem?_eq_some_iff.mp hk).1
  refine def_ok ?_
  unfold den_Book_holders
  simp [h.fv, need_key_eq h n hn, need_moment_eq m o h0, who_eq h n k hk hl hm m]
theorem locks_eq {o : Om} {b : Nat} {B : Bk} (h : BkAt o b B) (n : Nat) (rs : List Row) (hk : B.doors[n]? = some rs) (hl : rs.length ≤ 8) (hd : Door rs) (m : Int) (h0 : 0 ≤ m ∧ m ≤ 999) :
    phi_Book_locks [.obj b, .int n, .int m] o = .ok (.lst ((kindsOf rs m).map .int)) o := by
  have hn : n < B.doors.length := (List.getElem?_eq_some_iff.mp hk).1
  refine def_ok ?_
  unfold den_Book_locks
  simp [h.fv, need_door_eq h n hn, need_moment_eq m o h0, kinds_eq h n rs hk hl hd m]
theorem entries_eq {o : Om} {b : Nat} {B : Bk} (h : BkAt o b B) (n : Nat) (k : Key) (hk : B.keys[n]? = some k) :
    phi_Book_entries [.obj b, .int n] o = .ok (eRows k.rows) o := by
  have hn : n < B.keys.length := (List.getElem?_eq_some_iff.mp hk).1
  refine def_ok ?_
  unfold den_Book_entries
  simp [h.fv, h.q4, atI_nat, hk, need_key_eq h n hn, opList, eRows]
theorem fitted_eq {o : Om} {b : Nat} {B : Bk} (h : BkAt o b B) (n : Nat) (rs : List Row) (hk : B.doors[n]? = some rs) :
    phi_Book_fitted [.obj b, .int n] o = .ok (eRows rs) o := by
  have hn : n < B.doors.length := (List.getElem?_eq_some_iff.mp hk).1
  refine def_ok ?_
  unfold den_Book_fitted
  simp [h.fv, h.q1, atI_nat, hk, need_door_eq h n hn, opList, eRows]
/-! ### copies -/
/-- whether by this entry a person may have had it up to a moment -/
def cop (rs : List Row) (person : Nat) (m : Int) (i : Nat) : Bool := match rs[i]? with
  | some r => (r.w == none || r.w == some (person : Int)) && (decide (soon rs (i + 1) ≤ m) && decide (soon rs (i + 1) < ends rs (i + 1)))
  | none => false
def CopAt (rs : List Row) (person : Nat) (m : Int) (c : Nat) : Prop := (c = 0 ∧ ∀ i, i < rs.length → cop rs person m i = false) ∨ ∃ i, i < rs.length ∧ c = i + 1 ∧ cop rs person m i = true ∧ ∀ j, j < i → cop rs person m j = false
def copd (rs : List Row) (person : Nat) (m : Int) : Bool := (List.range rs.length).any (cop rs person m)
theorem copAt_pos {rs : List Row} {person : Nat} {m : Int} {c : Nat} (h : CopAt rs person m c) : decide (0 < c) = copd rs person m := by
  rcases h with ⟨rfl, h⟩ | ⟨i, hi, rfl, h, _⟩
  · have : copd rs person m = false := by
      unfold copd
      rw [List.any_eq_false]
      intro x hx
      rw [h x (List.mem_range.mp hx)]
      decide
    rw [this]; rfl
  · have : copd rs person m = true := List.any_eq_true.mpr ⟨i, List.mem_range.mpr hi, h⟩
    rw [this]; simp
theorem copied_eq {o : Om} {b : Nat} {B : Bk} (h : BkAt o b B) (n : Nat) (k : Key) (hk : B.keys[n]? = some k) (hl : k.rows.length ≤ 8) (person : Nat) (m : Int) :
    ∃ c : Nat, phi_copied_from [.obj b, .int n, .int person, .int m] o = .ok (.int c) o ∧ CopAt k.rows person m c := by
  have key : V (fun d o1 => o1 = o ∧ ∃ c : Nat, d = .int c ∧ CopAt k.rows person m c) (fun _ _ => False) (phi_copied_from [.obj b, .int n, .int person, .int m] o) := by
    refine def_V ?_
    unfold den_copied_from
    have h3 : (-100000 : Int) ≤ k.rows.length + 1 := by omega
    have h4 : (k.rows.length : Int) + 1 ≤ 100000 := by omega
    simp [h.fv, h.q4, atI_nat, hk, stretches_eq k.rows o (by omega), iR2k, h3, h4]
    refine W_rng k.rows.length (fun i ρ o1 => o1 = o ∧ (∀ j, j < i → cop k.rows person m j = false) ∧ ∃ a1 a2 a3 a4, ρ = [.d (.obj b), .d (.int n), .d (.int person), .d (.int m), .d (.lst ((List.range (k.rows.length + 1)).map (strE k.rows))), a1, a2, a3, a4])
      ⟨rfl, fun j hj => by omega, _, _, _, _, rfl⟩ ?_ ?_
    · rintro i ρ o1 hi ⟨rfl, hp, a1, a2, a3, a4, rfl⟩
      refine ⟨_, rfl, ?_⟩
      have e1 : (1 : Int) + (i : Int) = ((i + 1 : Nat) : Int) := by omega
      have e2 : kd k.rows (i + 1) = k.rows[i].w := by simp [kd, List.getElem?_eq_getElem hi]
      have e3 : cop k.rows person m i = ((k.rows[i].w == none || k.rows[i].w == some (person : Int)) && (decide (soon k.rows (i + 1) ≤ m) && decide (soon k.rows (i + 1) < ends k.rows (i + 1)))) := by
        unfold cop
        rw [List.getElem?_eq_getElem hi]
      rw [e1]
      simp [atI_succ, List.getElem?_range (show i + 1 < k.rows.length + 1 by omega), strE, e2, eq_eO]
      have hT : cop k.rows person m i = true → ∃ c : Nat, (i : Int) + 1 = (c : Int) ∧ CopAt k.rows person m c := fun hc => ⟨i + 1, by omega, .inr ⟨i, hi, rfl, hc, hp⟩⟩
      have hF : cop k.rows person m i = false → ∀ j, j < i + 1 → cop k.rows person m j = false := fun hc j hj => by
        rcases Nat.lt_or_ge j i with q | q
        · exact hp j q
        · have e : j = i := by omega
          rw [e]; exact hc
      have pick : ∀ t : Bool, cop k.rows person m i = t → V (fun x o => W (fun ρ o1_1 => o1_1 = o1 ∧ (∀ (j : Nat), j < i + 1 → cop k.rows person m j = false) ∧ ∃ a1 a2 a3 a4,
            ρ = [EV.d (D.obj b), EV.d (D.int ↑n), EV.d (D.int ↑person), EV.d (D.int m), EV.d (D.lst (List.map (strE k.rows) (List.range (k.rows.length + 1)))), a1, a2, a3, a4])
          (fun d o1_1 => o1_1 = o1 ∧ ∃ c : Nat, d = D.int ↑c ∧ CopAt k.rows person m c) (fun x x_1 => False)
          (if x = true then RS.rt (D.int (↑i + 1)) o else RS.nx [EV.d (D.obj b), EV.d (D.int ↑n), EV.d (D.int ↑person), EV.d (D.int m), EV.d (D.lst (List.map (strE k.rows) (List.range (k.rows.length + 1)))), EV.d (D.int (↑i + 1)),
                  EV.d (eO k.rows[i].w), EV.d (D.int (soon k.rows (i + 1))), EV.d (D.int (ends k.rows (i + 1)))] o)) (fun x x_1 => False) (.ok t o1) := by
        intro t ht
        cases t with
        | true =>
          obtain ⟨c, h1, h2⟩ := hT ht
          simp
          exact ⟨c, h1, h2⟩
        | false =>
          simp
          exact hF ht
      by_cases q1 : k.rows[i].w = none
      · by_cases q3 : soon k.rows (i + 1) ≤ m
        · simp only [q1, q3, if_true, V_ok]
          rw [q1] at pick
          exact pick (decide (soon k.rows (i + 1) < ends k.rows (i + 1))) (by rw [e3]; simp [q1, q3])
        · simp only [q1, q3, if_true, if_false, V_ok]
          rw [q1] at pick
          exact pick false (by rw [e3]; simp [q1, q3])
      · simp only [q1, if_false, V_ok]
        cases q2 : (k.rows[i].w == some (person : Int)) with
        | true =>
          by_cases q3 : soon k.rows (i + 1) ≤ m
          · simp only [q3, if_true, V_ok]
            exact pick (decide (soon k.rows (i + 1) < ends k.rows (i + 1))) (by rw [e3]; simp [q2, q3])
          · simp only [q3, if_true, if_false, V_ok]
            exact pick false (by rw [e3]; simp [q2, q3])
        | false =>
          have q2' : ¬ k.rows[i].w = some (person : Int) := by simpa using q2
          simp only [Bool.false_eq_true, if_false, V_ok]
          exact pick false (by rw [e3]; simp [q1, q2'])
    · rintro ρ o1 ⟨rfl, hp, a1, a2, a3, a4, rfl⟩
      simp
      exact ⟨0, rfl, .inl ⟨rfl, hp⟩⟩
  cases q : phi_copied_from [.obj b, .int n, .int person, .int m] o with
  | ok d o1 =>
    rw [q] at key
    obtain ⟨rfl, c, rfl, hc⟩ := key
    exact ⟨c, rfl, hc⟩
  | exc x o1 => rw [q] at key; exact key.elim
  | bad => rw [q] at key; exact key.elim
end KR
set_option Elab.async false
set_option linter.all false
set_option maxRecDepth 100000
set_option maxHeartbeats 2000000
namespace KR
open PySem L2
theorem cont_cast (p : Nat) : ∀ ns : List Nat, (ns.map fun n : Nat => (n : Int)).contains (p : Int) = ns.contains p
  | [] => rfl
  | a :: r => by
    rw [List.map_cons, List.contains_cons, List.contains_cons, cont_cast p r]
    congr 1
    by_cases h : p = a
    · rw [h]; simp
    · rw [beq_eq_false_iff_ne.mpr h, beq_eq_false_iff_ne.mpr (by omega)]
theorem in_nats (o : Om) (p : Nat) (ns : List Nat) : opIn o (.int p) (.lst (ns.map eN)) = some (.bl (ns.contains p)) := by rw [map_eN, in_ints, cont_cast]
theorem notIn_nats (o : Om) (p : Nat) (ns : List Nat) : opNotIn o (.int p) (.lst (ns.map eN)) = some (.bl (!ns.contains p)) := by rw [map_eN, notIn_ints, cont_cast]
def mayHold (many person : Nat) (m : Int) (k : Key) : Bool := (everyOf many (whoS k.rows m)).contains person || (k.plain && copd k.rows person m)
theorem may_hold_eq {o : Om} {b : Nat} {B : Bk} (h : BkAt o b B) (n : Nat) (k : Key) (hk : B.keys[n]? = some k) (hl : k.rows.length ≤ 8) (hm : B.many ≤ 8) (person : Nat) (m : Int) :
    phi_may_hold [.obj b, .int n, .int person, .int m] o = .ok (.bl (mayHold B.many person m k)) o := by
  obtain ⟨c, hc, hca⟩ := copied_eq h n k hk hl person m
  refine def_ok ?_
  unfold den_may_hold
  simp [h.fv, h.q3, atI_nat, hk, who_eq h n k hk hl hm m, in_nats, hc]
  cases q : (everyOf B.many (whoS k.rows m)).contains person with
  | true =>
    have q' : person ∈ everyOf B.many (whoS k.rows m) := by simpa using q
    simp [q', mayHold]
  | false =>
    have q' : ¬ person ∈ everyOf B.many (whoS k.rows m) := by simpa using q
    simp [q', mayHold, h.fv, h.q3, atI_nat, hk, hc, ← copAt_pos hca]
    cases k.plain <;> simp [hc]
def opensAt (B : Bk) (i : Nat) : List Int := (B.keys[i]?).elim [] (·.opens)
def isSure (person : Nat) (m : Int) (k : Key) : Bool := sureOf (whoS k.rows m) == some (person : Int)
def mine (B : Bk) (person : Nat) (m : Int) : List Nat := (List.range B.keys.length).filter fun i => (B.keys[i]?).elim false (isSure person m)
def sureA (B : Bk) (person : Nat) (kinds : List Int) (m : Int) : Bool := (kinds.filter fun kd => ((mine B person m).filter fun i => (opensAt B i).contains kd).isEmpty).isEmpty
def opensSome (B : Bk) (kinds : List Int) (i : Nat) : Bool := !((opensAt B i).filter fun kd => kinds.contains kd).isEmpty
def maybeA (B : Bk) (person : Nat) (kinds : List Int) (m : Int) : Bool := (List.range B.keys.length).any fun i => opensSome B kinds i && (B.keys[i]?).elim false (mayHold B.many person m)
def ans (B : Bk) (person : Nat) (kinds : List Int) (m : Int) : Str := if sureA B person kinds m then "surely" else if maybeA B person kinds m then "maybe" else "no"
/-- what holds of a book -/
structure Ok (B : Bk) : Prop where
  many : 1 ≤ B.many ∧ B.many ≤ 8
  doors : 1 ≤ B.doors.length ∧ B.doors.length ≤ 4
  keys : B.keys.length ≤ 6
  opens : ∀ k ∈ B.keys, k.opens.length ≤ 10
  rows : ∀ k ∈ B.keys, k.rows.length ≤ 8
  drows : ∀ rs ∈ B.doors, rs.length ≤ 8 ∧ Door rs
theorem kindsOf_len {rs : List Row} (h : rs.length ≤ 8) (m : Int) : (kindsOf rs m).length ≤ 9 := by
  unfold kindsOf
  rw [(srtI_perm _).length_eq]
  refine Nat.le_trans (len_dd _) ?_
  rw [List.length_map]
  have := places_len rs m
  omega
theorem range_eN (n : Nat) : rangeD 0 (n : Int) = (List.range n).map eN := by
  unfold rangeD
  rw [Int.sub_zero, Int.toNat_natCast]
  exact List.map_congr_left fun i _ => by unfold eN; rw [Int.zero_add]
theorem lrg (o : Om) (n : Nat) (h : n ≤ 1000) : opLRg o (.int n) = some (.lst ((List.range n).map eN)) := by
  show (if (n : Int) ≤ 100000 ∧ -100000 ≤ (n : Int) then some (D.lst (rangeD 0 n)) else none) = _
  rw [if_pos (by omega), range_eN]
theorem answer_eq {o : Om} {b : Nat} {B : Bk} (h : BkAt o b B) (hB : Ok B) (d : Nat) (rs : List Row) (hk : B.doors[d]? = some rs) (person : Nat) (m : Int) :
    phi_answer [.obj b, .int person, .int d, .int m] o = .ok (.str (ans B person (kindsOf rs m) m)) o := by
  obtain ⟨hr8, hdo⟩ := hB.drows rs (List.mem_of_getElem? hk)
  have hn := hB.keys
  have hkl := kindsOf_len hr8 m
  have hm1 : (mine B person m).length ≤ 6 := by
    unfold mine
    exact Nat.le_trans (List.length_filter_le _ _) (by simpa using hn)
  refine def_ok ?_
  unfold den_answer
  simp [h.fv, h.q4, kinds_eq h d rs hk hr8 hdo m, lrg o B.keys.length (by omega)]
  rw [lc_l eN (List.range B.keys.length) (by simp; omega) (fun i => (B.keys[i]?).elim false (isSure person m)) id eN]
  · simp
    rw [show List.filter (fun i => (B.keys[i]?).elim false (isSure person m)) (List.range B.keys.length) = mine B person m from rfl]
    rw [lc_l D.int (kindsOf rs m) (by omega) (fun kd => ((mine B person m).filter fun i => (opensAt B i).contains kd).isEmpty) id D.int]
    · simp only [V_ok, List.map_id]
      rw [eq_nil]
      simp only [V_ok, Res.of_some, W_nx, pf_Nm, W_bindS, ev_T, V_bind, ev_Var, List.set_cons_succ, List.set_cons_zero, List.getElem?_cons_succ, List.getElem?_cons_zero, asB_bl]
      rw [show (List.filter (fun kd => ((mine B person m).filter fun i => (opensAt B i).contains kd).isEmpty) (kindsOf rs m)).isEmpty = sureA B person (kindsOf rs m) m from rfl]
      cases hs : sureA B person (kindsOf rs m) m with
      | true => simp [ans, hs]
      | false =>
        simp
        refine W_lst eN (List.range B.keys.length) (fun r ρ o1 => o1 = o ∧ (∃ pre, pre ++ r = List.range B.keys.length ∧ ∀ i ∈ pre, (opensSome B (kindsOf rs m) i && (B.keys[i]?).elim false (mayHold B.many person m)) = false) ∧
          ∃ a1 a2, ρ = [.d (.obj b), .d (.int person), .d (.int d), .d (.int m), .d (.lst ((kindsOf rs m).map .int)), .d (.lst ((List.range B.keys.length).map eN)), .d (.lst ((mine B person m).map eN)), .d (.bl false), a1, a2]) ?_ ?_ ?_
        · exact ⟨rfl, ⟨[], rfl, fun _ z => nomatch z⟩, .no, .no, by simp [hs]⟩
        · rintro i r ρ o1 ⟨rfl, ⟨pre, hpre, hno⟩, a1, a2, rfl⟩
          have hi : i ∈ List.range B.keys.length := by rw [← hpre]; simp
          have hi' : i < B.keys.length := List.mem_range.mp hi
          have hk' := List.getElem?_eq_getElem hi'
          refine ⟨_, rfl, ?_⟩
          simp [eN, h.fv, h.q2, atI_nat, hk', eTs]
          rw [lc_t D.int B.keys[i].opens (by have := hB.opens _ (List.getElem_mem hi'); omega) (fun kd => (kindsOf rs m).contains kd) id D.int]
          · simp only [V_ok, List.map_id]
            rw [ne_nil]
            have e1 : (!(B.keys[i].opens.filter fun kd => (kindsOf rs m).contains kd).isEmpty) = opensSome B (kindsOf rs m) i := by unfold opensSome opensAt; rw [hk']; rfl
            rw [e1]
            cases q1 : opensSome B (kindsOf rs m) i with
            | false =>
              simp
              refine ⟨pre ++ [i], by simpa using hpre, fun j hj hs => ?_⟩
              rcases List.mem_append.mp hj with z | z
              · have := hno j z
                rw [hs] at this
                simpa using this
              · rw [List.mem_singleton.mp z, q1] at hs; cases hs
            | true =>
              simp [may_hold_eq h i _ hk' (hB.rows _ (List.getElem_mem hi')) hB.many.2 person m]
              cases q2 : mayHold B.many person m B.keys[i] with
              | false =>
                simp
                refine ⟨pre ++ [i], by simpa using hpre, fun j hj hs => ?_⟩
                rcases List.mem_append.mp hj with z | z
                · have := hno j z
                  rw [hs] at this
                  simpa using this
                · rw [List.mem_singleton.mp z, hk']; exact q2
              | true =>
                have : maybeA B person (kindsOf rs m) m = true := List.any_eq_true.mpr ⟨i, hi, by rw [q1, hk']; simp [q2]⟩
                simp [ans, hs, this]
          · intro kd hkd
            refine ⟨_, rfl, ?_, fun _ => rfl⟩
            simp [wipeE, in_ints]
        · rintro ρ o1 ⟨rfl, ⟨pre, hpre, hno⟩, a1, a2, rfl⟩
          have : maybeA B person (kindsOf rs m) m = false := by
            unfold maybeA
            rw [List.any_eq_false]
            intro i hi
            rw [← hpre, List.append_nil] at hi
            rw [hno i hi]
            decide
          simp [ans, hs, this]
    · intro kd hkd
      refine ⟨_, rfl, ?_, fun _ => rfl⟩
      simp [wipeE]
      rw [lc_l eN (mine B person m) (by omega) (fun i => (opensAt B i).contains kd) id eN]
      · simp [eq_nilN]
      · intro i hi
        have hi' : i < B.keys.length := List.mem_range.mp (List.mem_filter.mp hi).1
        have hk' := List.getElem?_eq_getElem hi'
        refine ⟨_, rfl, ?_, fun _ => rfl⟩
        simp [wipeE, eN, h.fv, h.q2, atI_nat, hk', in_tints, opensAt]
  · intro i hi
    have hi' : i < B.keys.length := List.mem_range.mp hi
    have hk' := List.getElem?_eq_getElem hi'
    refine ⟨_, rfl, ?_, fun _ => rfl⟩
    simp [wipeE, eN, h.fv, who_eq h i _ hk' (hB.rows _ (List.getElem_mem hi')) hB.many.2 m, eq_eO, hk', isSure]
end KR
set_option Elab.async false
set_option linter.all false
set_option maxRecDepth 100000
set_option maxHeartbeats 2000000
namespace KR
open PySem L2
theorem need_all_eq {o : Om} {b : Nat} {B : Bk} (h : BkAt o b B) (person d : Nat) (hp : person < B.many) (hd : d < B.doors.length) (m : Int) (h0 : 0 ≤ m ∧ m ≤ 999) :
    phi_need_all [.obj b, .int person, .int d, .int m] o = .ok .non o := by
  refine def_ok ?_
  unfold den_need_all
  simp [h.fv, need_person_eq h person hp, need_door_eq h d hd, need_moment_eq m o h0]
theorem could_eq {o : Om} {b : Nat} {B : Bk} (h : BkAt o b B) (hB : Ok B) (d : Nat) (rs : List Row) (hk : B.doors[d]? = some rs) (person : Nat) (hp : person < B.many) (m : Int) (h0 : 0 ≤ m ∧ m ≤ 999) :
    phi_could [.obj b, .int person, .int d, .int m] o = .ok (.str (ans B person (kindsOf rs m) m)) o := by
  have hd : d < B.doors.length := (List.getElem?_eq_some_iff.mp hk).1
  refine def_ok ?_
  unfold den_could
  simp [need_all_eq h person d hp hd m h0, answer_eq h hB d rs hk person m]
theorem strOk3 (s : Str) (h : s = "surely" ∨ s = "maybe" ∨ s = "no") : PyData.strOk s = true := by rcases h with h | h | h <;> subst h <;> decide +kernel
theorem ans3 (B : Bk) (person : Nat) (kinds : List Int) (m : Int) : ans B person kinds m = "surely" ∨ ans B person kinds m = "maybe" ∨ ans B person kinds m = "no" := by
  unfold ans
  split
  · exact .inl rfl
  · split
    · exact .inr (.inl rfl)
    · exact .inr (.inr rfl)
theorem toPy_str (o : Om) (k : Nat) {s : Str} (h : PyData.strOk s = true) : toPy o (k + 1) (.str s) = some (.str s) := by
  show (if PyData.strOk s = true then some (PyData.str s) else none) = _
  rw [if_pos h]
theorem eq_strs (o : Om) {s t : Str} (hs : s = "surely" ∨ s = "maybe" ∨ s = "no") (ht : t = "surely" ∨ t = "maybe" ∨ t = "no") : opEq o (.str s) (.str t) = some (.bl (s == t)) := by
  rw [opEq_of (toPy_str o 8 (strOk3 s hs)) (toPy_str o 8 (strOk3 t ht))]
  rfl
theorem ne_strs (o : Om) {s t : Str} (hs : s = "surely" ∨ s = "maybe" ∨ s = "no") (ht : t = "surely" ∨ t = "maybe" ∨ t = "no") : opNe o (.str s) (.str t) = some (.bl (!(s == t))) := by
  rw [opNe_of (toPy_str o 8 (strOk3 s hs)) (toPy_str o 8 (strOk3 t ht))]
  rfl
def whoCan (B : Bk) (kinds : List Int) (m : Int) (w : Str) : List Nat := (List.range B.many).filter fun p => ans B p kinds m == w
theorem openers_eq {o : Om} {b : Nat} {B : Bk} (h : BkAt o b B) (hB : Ok B) (d : Nat) (rs : List Row) (hk : B.doors[d]? = some rs) (m : Int) (h0 : 0 ≤ m ∧ m ≤ 999) :
    phi_openers [.obj b, .int d, .int m] o = .ok (.tup [.lst ((whoCan B (kindsOf rs m) m "surely").map eN), .lst ((whoCan B (kindsOf rs m) m "maybe").map eN)]) o := by
  have hd : d < B.doors.length := (List.getElem?_eq_some_iff.mp hk).1
  have hm := hB.many
  have hm1 : (-100000 : Int) ≤ B.many := by omega
  have hm2 : (B.many : Int) ≤ 100000 := by omega
  refine def_ok ?_
  unfold den_openers
  simp [h.fv, need_door_eq h d hd, need_moment_eq m o h0, hm1, hm2]
  rw [lc_r B.many (by omega) (fun _ => true) (fun p => ans B p (kindsOf rs m) m) D.str]
  · simp [h.fv, hm1, hm2]
    rw [lc_r B.many (by omega) (fun p => ans B p (kindsOf rs m) m == "surely") id eN]
    · simp [h.fv, hm1, hm2]
      rw [lc_r B.many (by omega) (fun p => ans B p (kindsOf rs m) m == "maybe") id eN]
      · simp [whoCan]
      · intro p hp
        refine ⟨_, rfl, ?_, fun _ => rfl⟩
        simp [wipeE, atI_nat, List.getElem?_range hp, eq_strs o (ans3 B p (kindsOf rs m) m) (.inr (.inl rfl))]
    · intro p hp
      refine ⟨_, rfl, ?_, fun _ => rfl⟩
      simp [wipeE, atI_nat, List.getElem?_range hp, eq_strs o (ans3 B p (kindsOf rs m) m) (.inl rfl)]
  · intro p hp
    refine ⟨_, rfl, rfl, fun _ => ?_⟩
    simp [wipeE, answer_eq h hB d rs hk p m]
/-! ### a book is made -/
def ValidRow (r : Row) : Prop := 0 ≤ r.e ∧ r.e ≤ r.l ∧ r.l ≤ 999
theorem with_row_eq (rs : List Row) (r : Row) (o : Om) (hl : rs.length < 8) (hv : ValidRow r) (n : Nat) (hn : n ≤ rs.length) (hf : Fit (rs.take n ++ [r] ++ rs.drop n)) :
    phi_with_row [eRows rs, .int n, eRow r] o = .ok (eRows (rs.take n ++ [r] ++ rs.drop n)) o := by
  obtain ⟨v1, v2, v3⟩ := hv
  have e : List.map eRow (rs.take n) ++ ([eRow r] ++ List.map eRow (rs.drop n)) = (rs.take n ++ [r] ++ rs.drop n).map eRow := by simp
  have l1 : (List.map eRow (rs.take n)).length + 1 ≤ 100000 := by simp; omega
  have l2 : (rs.take n ++ [r] ++ rs.drop n).length ≤ 1000 := by simp; omega
  have c1 : cutD (rs.map eRow) none (some (n : Int)) = (rs.take n).map eRow := by rw [cut_to _ (by omega) (by simpa using hn), Int.toNat_natCast, List.map_take]
  have c2 : cutD (rs.map eRow) (some (n : Int)) none = (rs.drop n).map eRow := by rw [cut_from _ (by omega) (by simpa using hn), Int.toNat_natCast, List.map_drop]
  refine def_ok ?_
  unfold den_with_row
  have sl1 : opSl o (eRows rs) none (some (n : Int)) = some (.lst ((rs.take n).map eRow)) := by rw [← c1]; rfl
  have sl2 : opSl o (eRows rs) (some (n : Int)) none = some (.lst ((rs.drop n).map eRow)) := by rw [← c2]; rfl
  have a1 : opAdd o (.lst ((rs.take n).map eRow)) (.lst [eRow r]) = some (.lst ((rs.take n).map eRow ++ [eRow r])) := op_addL (by simpa using l1)
  have a2 : opAdd o (.lst ((rs.take n).map eRow ++ [eRow r])) (.lst ((rs.drop n).map eRow)) = some (eRows (rs.take n ++ [r] ++ rs.drop n)) := by
    rw [op_addL (by simp; omega)]
    simp [eRows]
  have fb := first_bad_fit _ o l2 hf
  have t0 : dChain3 opLe opLe opLe (dC (.int 0)) (d2 opIx (dVar 2) (dC (.int 1))) (d2 opIx (dVar 2) (dC (.int 2))) (dC (.int 999)) [.d (eRows rs), .d (.int n), .d (eRow r), .no, .no] o = .ok (.bl true) o := by
    unfold dChain3
    simp [eRow, v1, v2, v3]
  simp [-List.map_take, -List.map_drop, -List.append_assoc, -List.cons_append, -List.singleton_append, isN, t0, sl1, sl2, a1, a2, fb]
end KR
set_option Elab.async false
set_option linter.all false
set_option maxRecDepth 100000
set_option maxHeartbeats 4000000
namespace KR
open PySem L2
/-- what the handler of told comes to -/
theorem told_eq (a : Addr) (d : Option Addr) (xc : Xc) (o : Om) : den_told a d xc ((List.replicate 5 EV.no).set 1 (.d (.exn a d xc.xf))) o = .rt (toldD xc) o := by
  have e1 : opNe o (.int 1) (.int 1) = some (.bl false) := rfl
  have ok : ∀ s : Str, (s = "book" ∨ s = "key" ∨ s = "one" ∨ s = "place" ∨ s = "times" ∨ s = "moment") → PyData.strOk s = true := by
    rintro s (h | h | h | h | h | h) <;> subst h <;> decide +kernel
  have eq : ∀ s t : Str, (s = "book" ∨ s = "key" ∨ s = "one" ∨ s = "place" ∨ s = "times" ∨ s = "moment") → (t = "book" ∨ t = "key" ∨ t = "one" ∨ t = "place" ∨ t = "times" ∨ t = "moment") → opEq o (.str s) (.str t) = some (.bl (s == t)) := fun s t hs ht => by
    rw [opEq_of (toPy_str o 8 (ok s hs)) (toPy_str o 8 (ok t ht))]; rfl
  have len6 : ∀ o : Om, opLst o [.str "book", .str "key", .str "one", .str "place", .str "times", .str "moment"] = some (.lst [.str "book", .str "key", .str "one", .str "place", .str "times", .str "moment"]) := fun _ => rfl
  unfold den_told
  cases xc
  case badBook =>
    have b0 : (Xc.badBook.nm == ("BadBook" : Str)) = true := by show (("BadBook" : Str) == ("BadBook" : Str)) = true; decide +kernel
    have b1 : (Xc.badBook.nm == ("BadKey" : Str)) = false := by show (("BadBook" : Str) == ("BadKey" : Str)) = false; decide +kernel
    have b2 : (Xc.badBook.nm == ("NoOne" : Str)) = false := by show (("BadBook" : Str) == ("NoOne" : Str)) = false; decide +kernel
    have b3 : (Xc.badBook.nm == ("BadPlace" : Str)) = false := by show (("BadBook" : Str) == ("BadPlace" : Str)) = false; decide +kernel
    have b4 : (Xc.badBook.nm == ("BadTimes" : Str)) = false := by show (("BadBook" : Str) == ("BadTimes" : Str)) = false; decide +kernel
    have b5 : (Xc.badBook.nm == ("NoMoment" : Str)) = false := by show (("BadBook" : Str) == ("NoMoment" : Str)) = false; decide +kernel
    have c1 : opCnt o (.lst [.bl true, .bl false, .bl false, .bl false, .bl false, .bl false]) (.bl true) = some (.int 1) := rfl
    have c2 : opIdx o (.lst [.bl true, .bl false, .bl false, .bl false, .bl false, .bl false]) (.bl true) = some (.int 0) := rfl
    have c3 : L2.atI [D.str "book", .str "key", .str "one", .str "place", .str "times", .str "moment"] 0 = some (.str "book") := rfl
    have q1 : opEq o (.str "book") (.str "key") = some (.bl false) := by rw [eq _ _ (by simp) (by simp), show (("book" : Str) == ("key" : Str)) = false by decide +kernel]
    have q2 : opEq o (.str "book") (.str "times") = some (.bl false) := by rw [eq _ _ (by simp) (by simp), show (("book" : Str) == ("times" : Str)) = false by decide +kernel]
    simp [dIsX, len6, dRM, lv, b0, b1, b2, b3, b4, b5, c1, c2, c3, e1, q1, q2, dXf, xfD, Xc.xf, toldD]
  case badKey w =>
    have b0 : ((Xc.badKey w).nm == ("BadBook" : Str)) = false := by show (("BadKey" : Str) == ("BadBook" : Str)) = false; decide +kernel
    have b1 : ((Xc.badKey w).nm == ("BadKey" : Str)) = true := by show (("BadKey" : Str) == ("BadKey" : Str)) = true; decide +kernel
    have b2 : ((Xc.badKey w).nm == ("NoOne" : Str)) = false := by show (("BadKey" : Str) == ("NoOne" : Str)) = false; decide +kernel
    have b3 : ((Xc.badKey w).nm == ("BadPlace" : Str)) = false := by show (("BadKey" : Str) == ("BadPlace" : Str)) = false; decide +kernel
    have b4 : ((Xc.badKey w).nm == ("BadTimes" : Str)) = false := by show (("BadKey" : Str) == ("BadTimes" : Str)) = false; decide +kernel
    have b5 : ((Xc.badKey w).nm == ("NoMoment" : Str)) = false := by show (("BadKey" : Str) == ("NoMoment" : Str)) = false; decide +kernel
    have c1 : opCnt o (.lst [.bl false, .bl true, .bl false, .bl false, .bl false, .bl false]) (.bl true) = some (.int 1) := rfl
    have c2 : opIdx o (.lst [.bl false, .bl true, .bl false, .bl false, .bl false, .bl false]) (.bl true) = some (.int 1) := rfl
    have c3 : L2.atI [D.str "book", .str "key", .str "one", .str "place", .str "times", .str "moment"] 1 = some (.str "key") := rfl
    have q1 : opEq o (.str "key") (.str "key") = some (.bl true) := by rw [eq _ _ (by simp) (by simp), show (("key" : Str) == ("key" : Str)) = true by decide +kernel]
    have q2 : opEq o (.str "key") (.str "times") = some (.bl false) := by rw [eq _ _ (by simp) (by simp), show (("key" : Str) == ("times" : Str)) = false by decide +kernel]
    simp [dIsX, len6, dRM, lv, b0, b1, b2, b3, b4, b5, c1, c2, c3, e1, q1, q2, dXf, xfD, Xc.xf, toldD]
  case noOne =>
    have b0 : (Xc.noOne.nm == ("BadBook" : Str)) = false := by show (("NoOne" : Str) == ("BadBook" : Str)) = false; decide +kernel
    have b1 : (Xc.noOne.nm == ("BadKey" : Str)) = false := by show (("NoOne" : Str) == ("BadKey" : Str)) = false; decide +kernel
    have b2 : (Xc.noOne.nm == ("NoOne" : Str)) = true := by show (("NoOne" : Str) == ("NoOne" : Str)) = true; decide +kernel
    have b3 : (Xc.noOne.nm == ("BadPlace" : Str)) = false := by show (("NoOne" : Str) == ("BadPlace" : Str)) = false; decide +kernel
    have b4 : (Xc.noOne.nm == ("BadTimes" : Str)) = false := by show (("NoOne" : Str) == ("BadTimes" : Str)) = false; decide +kernel
    have b5 : (Xc.noOne.nm == ("NoMoment" : Str)) = false := by show (("NoOne" : Str) == ("NoMoment" : Str)) = false; decide +kernel
    have c1 : opCnt o (.lst [.bl false, .bl false, .bl true, .bl false, .bl false, .bl false]) (.bl true) = some (.int 1) := rfl
    have c2 : opIdx o (.lst [.bl false, .bl false, .bl true, .bl false, .bl false, .bl false]) (.bl true) = some (.int 2) := rfl
    have c3 : L2.atI [D.str "book", .str "key", .str "one", .str "place", .str "times", .str "moment"] 2 = some (.str "one") := rfl
    have q1 : opEq o (.str "one") (.str "key") = some (.bl false) := by rw [eq _ _ (by simp) (by simp), show (("one" : Str) == ("key" : Str)) = false by decide +kernel]
    have q2 : opEq o (.str "one") (.str "times") = some (.bl false) := by rw [eq _ _ (by simp) (by simp), show (("one" : Str) == ("times" : Str)) = false by decide +kernel]
    simp [dIsX, len6, dRM, lv, b0, b1, b2, b3, b4, b5, c1, c2, c3, e1, q1, q2, dXf, xfD, Xc.xf, toldD]
  case badPlace =>
    have b0 : (Xc.badPlace.nm == ("BadBook" : Str)) = false := by show (("BadPlace" : Str) == ("BadBook" : Str)) = false; decide +kernel
    have b1 : (Xc.badPlace.nm == ("BadKey" : Str)) = false := by show (("BadPlace" : Str) == ("BadKey" : Str)) = false; decide +kernel
    have b2 : (Xc.badPlace.nm == ("NoOne" : Str)) = false := by show (("BadPlace" : Str) == ("NoOne" : Str)) = false; decide +kernel
    have b3 : (Xc.badPlace.nm == ("BadPlace" : Str)) = true := by show (("BadPlace" : Str) == ("BadPlace" : Str)) = true; decide +kernel
    have b4 : (Xc.badPlace.nm == ("BadTimes" : Str)) = false := by show (("BadPlace" : Str) == ("BadTimes" : Str)) = false; decide +kernel
    have b5 : (Xc.badPlace.nm == ("NoMoment" : Str)) = false := by show (("BadPlace" : Str) == ("NoMoment" : Str)) = false; decide +kernel
    have c1 : opCnt o (.lst [.bl false, .bl false, .bl false, .bl true, .bl false, .bl false]) (.bl true) = some (.int 1) := rfl
    have c2 : opIdx o (.lst [.bl false, .bl false, .bl false, .bl true, .bl false, .bl false]) (.bl true) = some (.int 3) := rfl
    have c3 : L2.atI [D.str "book", .str "key", .str "one", .str "place", .str "times", .str "moment"] 3 = some (.str "place") := rfl
    have q1 : opEq o (.str "place") (.str "key") = some (.bl false) := by rw [eq _ _ (by simp) (by simp), show (("place" : Str) == ("key" : Str)) = false by decide +kernel]
    have q2 : opEq o (.str "place") (.str "times") = some (.bl false) := by rw [eq _ _ (by simp) (by simp), show (("place" : Str) == ("times" : Str)) = false by decide +kernel]
    simp [dIsX, len6, dRM, lv, b0, b1, b2, b3, b4, b5, c1, c2, c3, e1, q1, q2, dXf, xfD, Xc.xf, toldD]
  case badTimes p =>
    have b0 : ((Xc.badTimes p).nm == ("BadBook" : Str)) = false := by show (("BadTimes" : Str) == ("BadBook" : Str)) = false; decide +kernel
    have b1 : ((Xc.badTimes p).nm == ("BadKey" : Str)) = false := by show (("BadTimes" : Str) == ("BadKey" : Str)) = false; decide +kernel
    have b2 : ((Xc.badTimes p).nm == ("NoOne" : Str)) = false := by show (("BadTimes" : Str) == ("NoOne" : Str)) = false; decide +kernel
    have b3 : ((Xc.badTimes p).nm == ("BadPlace" : Str)) = false := by show (("BadTimes" : Str) == ("BadPlace" : Str)) = false; decide +kernel
    have b4 : ((Xc.badTimes p).nm == ("BadTimes" : Str)) = true := by show (("BadTimes" : Str) == ("BadTimes" : Str)) = true; decide +kernel
    have b5 : ((Xc.badTimes p).nm == ("NoMoment" : Str)) = false := by show (("BadTimes" : Str) == ("NoMoment" : Str)) = false; decide +kernel
    have c1 : opCnt o (.lst [.bl false, .bl false, .bl false, .bl false, .bl true, .bl false]) (.bl true) = some (.int 1) := rfl
    have c2 : opIdx o (.lst [.bl false, .bl false, .bl false, .bl false, .bl true, .bl false]) (.bl true) = some (.int 4) := rfl
    have c3 : L2.atI [D.str "book", .str "key", .str "one", .str "place", .str "times", .str "moment"] 4 = some (.str "times") := rfl
    have q1 : opEq o (.str "times") (.str "key") = some (.bl false) := by rw [eq _ _ (by simp) (by simp), show (("times" : Str) == ("key" : Str)) = false by decide +kernel]
    have q2 : opEq o (.str "times") (.str "times") = some (.bl true) := by rw [eq _ _ (by simp) (by simp), show (("times" : Str) == ("times" : Str)) = true by decide +kernel]
    simp [dIsX, len6, dRM, lv, b0, b1, b2, b3, b4, b5, c1, c2, c3, e1, q1, q2, dXf, xfD, Xc.xf, toldD]
  case noMoment =>
    have b0 : (Xc.noMoment.nm == ("BadBook" : Str)) = false := by show (("NoMoment" : Str) == ("BadBook" : Str)) = false; decide +kernel
    have b1 : (Xc.noMoment.nm == ("BadKey" : Str)) = false := by show (("NoMoment" : Str) == ("BadKey" : Str)) = false; decide +kernel
    have b2 : (Xc.noMoment.nm == ("NoOne" : Str)) = false := by show (("NoMoment" : Str) == ("NoOne" : Str)) = false; decide +kernel
    have b3 : (Xc.noMoment.nm == ("BadPlace" : Str)) = false := by show (("NoMoment" : Str) == ("BadPlace" : Str)) = false; decide +kernel
    have b4 : (Xc.noMoment.nm == ("BadTimes" : Str)) = false := by show (("NoMoment" : Str) == ("BadTimes" : Str)) = false; decide +kernel
    have b5 : (Xc.noMoment.nm == ("NoMoment" : Str)) = true := by show (("NoMoment" : Str) == ("NoMoment" : Str)) = true; decide +kernel
    have c1 : opCnt o (.lst [.bl false, .bl false, .bl false, .bl false, .bl false, .bl true]) (.bl true) = some (.int 1) := rfl
    have c2 : opIdx o (.lst [.bl false, .bl false, .bl false, .bl false, .bl false, .bl true]) (.bl true) = some (.int 5) := rfl
    have c3 : L2.atI [D.str "book", .str "key", .str "one", .str "place", .str "times", .str "moment"] 5 = some (.str "moment") := rfl
    have q1 : opEq o (.str "moment") (.str "key") = some (.bl false) := by rw [eq _ _ (by simp) (by simp), show (("moment" : Str) == ("key" : Str)) = false by decide +kernel]
    have q2 : opEq o (.str "moment") (.str "times") = some (.bl false) := by rw [eq _ _ (by simp) (by simp), show (("moment" : Str) == ("times" : Str)) = false by decide +kernel]
    simp [dIsX, len6, dRM, lv, b0, b1, b2, b3, b4, b5, c1, c2, c3, e1, q1, q2, dXf, xfD, Xc.xf, toldD]
end KR
set_option Elab.async false
set_option linter.all false
set_option maxRecDepth 100000
set_option maxHeartbeats 2000000
namespace KR
open PySem L2
/-- k31 _law_order, 0:_law_d 1:_law_many 2:_law_left 3:_law_k -/
def den_l_order : DS := (dSeq (dAsg (dLRgH (dVar 1)) (pNm 2)) (dRet (dLc (iR1 (dVar 1)) (pNm 3) dYes (dBM mPopAt (dVar 2) (dCons (dCall 2 phi_l_next (dCons (dVar 0) (dCons (dN opLen (dCons (dVar 2) dNil)) dNil))) dNil)) [3])))
def phi_l_order : Phi := dDef 4 den_l_order
/-- k31 law own , 0:_law_script 1:_law_d 2:_law_case 3:_law_persons 4:_law_keys 5:_law_doors 6:_law_who 7:_law_names 8:_law_ways 9:_law_moved 10:_law_name 11:_law_opens 12:_law_plain 13:_law_rows 14:_law_other 15:_law_one 16:_law_two 17:_law_moment 18:_law_k 19:_law_sure 20:_law_every 21:_law_due 22:_law_person 23:_law_row 24:_law_door -/
def den_law_v9 : DS := (dSeq (dAsg (dCall 1 phi_l_dice (dCons (dVar 0) dNil)) (pNm 1)) (dSeq (dAsg (dCall 2 phi_l_story (dCons (dVar 1) (dCons (dC (.int 36)) dNil))) (pNm 2)) (dSeq (dAsg (dVar 2) (pTp (psLen 3 (psCons (pNm 3) (psCons (pNm 4) (psCons (pNm 5) psNil)))))) (dSeq (dAsg (dN opTup (dCons (dCall 2 phi_l_order (dCons (dVar 1) (dCons (dVar 3) dNil))) (dCons (dCall 2 phi_l_order (dCons (dVar 1) (dCons (dN opLen (dCons (dVar 4) dNil)) dNil))) (dCons (dCall 2 phi_l_order (dCons (dVar 1) (dCons (dN opLen (dCons (dVar 5) dNil)) dNil))) dNil)))) (pTp (psLen 3 (psCons (pNm 6) (psCons (pNm 7) (psCons (pNm 8) psNil)))))) (dSeq (dOwn 9 dNil) (dSeq (dFor (iSeq' (dVar 7)) (pNm 10) (dSeq (dAsg (d2 opIx (dVar 4) (dVar 10)) (pTp (psLen 3 (psCons (pNm 11) (psCons (pNm 12) (psCons (pNm 13) psNil)))))) (dApp 9 (dN opTup (dCons (dVar 11) (dCons (dVar 12) (dCons (dLc (iSeq' (dVar 13)) (pNm 23) dYes (d2 opAdd (dN opTup (dCons (dIf (dT (d2 opIsNot (d2 opIx (dVar 23) (dC (.int 0))) (dC .non))) (d2 opIx (dVar 6) (d2 opIx (dVar 23) (dC (.int 0)))) (dC .non)) dNil)) (dSl opSl (dVar 23) (doSo (dC (.int 1))) doNo)) [23]) dNil))))))) (dSeq (dFz 9) (dSeq (dAsg (dN opTup (dCons (dVar 3) (dCons (dVar 9) (dCons (dLc (iSeq' (dVar 8)) (pNm 24) dYes (d2 opIx (dVar 5) (dVar 24)) [24]) dNil)))) (pNm 14)) (dSeq (dPar 15 16 (dCall 1 phi_l_written (dCons (dVar 2) dNil)) (dCall 1 phi_l_written (dCons (dVar 14) dNil))) (dSeq (dFor (iSeq' (dLc (iR1 (dC (.int 5))) (pNm 18) dYes (dCall 2 phi_l_next (dCons (dVar 1) (dCons (dC (.int 24)) dNil))) [18])) (pNm 17) (dSeq (dFor (iR1 (dN opLen (dCons (dVar 7) dNil))) (pNm 18) (dSeq (dAsg (dMeth "holders" 3 phi_Book_holders (dVar 15) (dCons (d2 opIx (dVar 7) (dVar 18)) (dCons (dVar 17) dNil))) (pTp (psLen 2 (psCons (pNm 19) (psCons (pNm 20) psNil))))) (dSeq (dAsg (dN opTup (dCons (dIf (dT (d2 opIs (dVar 19) (dC .non))) (dC .non) (d2 opIx (dVar 6) (dVar 19))) (dCons (dN opSorted (dCons (dLc (iSeq' (dVar 20)) (pNm 22) dYes (d2 opIx (dVar 6) (dVar 22)) [22]) dNil)) dNil))) (pNm 21)) (dIfS (dT (d2 opNe (dMeth "holders" 3 phi_Book_holders (dVar 16) (dCons (dVar 18) (dCons (dVar 17) dNil))) (dVar 21))) (dRet (dC (.bl false))) dSkip)))) (dFor (iR1 (dN opLen (dCons (dVar 8) dNil))) (pNm 18) (dSeq (dIfS (dT (d2 opNe (dMeth "locks" 3 phi_Book_locks (dVar 15) (dCons (d2 opIx (dVar 8) (dVar 18)) (dCons (dVar 17) dNil))) (dMeth "locks" 3 phi_Book_locks (dVar 16) (dCons (dVar 18) (dCons (dVar 17) dNil))))) (dRet (dC (.bl false))) dSkip) (dSeq (dAsg (dN opTuple (dCons (dLc (iSeq' (dCall 3 phi_openers (dCons (dVar 15) (dCons (d2 opIx (dVar 8) (dVar 18)) (dCons (dVar 17) dNil))))) (pNm 23) dYes (dN opSorted (dCons (dLc (iSeq' (dVar 23)) (pNm 22) dYes (d2 opIx (dVar 6) (dVar 22)) [22]) dNil)) [23]) dNil)) (pNm 21)) (dSeq (dIfS (dT (d2 opNe (dCall 3 phi_openers (dCons (dVar 16) (dCons (dVar 18) (dCons (dVar 17) dNil)))) (dVar 21))) (dRet (dC (.bl false))) dSkip) (dFor (iR1 (dVar 3)) (pNm 22) (dIfS (dT (d2 opNe (dCall 4 phi_could (dCons (dVar 15) (dCons (dVar 22) (dCons (d2 opIx (dVar 8) (dVar 18)) (dCons (dVar 17) dNil))))) (dCall 4 phi_could (dCons (dVar 16) (dCons (d2 opIx (dVar 6) (dVar 22)) (dCons (dVar 18) (dCons (dVar 17) dNil))))))) (dRet (dC (.bl false))) dSkip)))))))) (dSeq (dAsg (dCall 2 phi_l_next (dCons (dVar 1) (dCons (dVar 3) dNil))) (pNm 22)) (dSeq (dFor (iR1 (dN opLen (dCons (dVar 8) dNil))) (pNm 18) (dIfS (dT (d2 opNe (dCall 3 phi_first (dCons (dVar 15) (dCons (dVar 22) (dCons (d2 opIx (dVar 8) (dVar 18)) dNil)))) (dCall 3 phi_first (dCons (dVar 16) (dCons (d2 opIx (dVar 6) (dVar 22)) (dCons (dVar 18) dNil)))))) (dRet (dC (.bl false))) dSkip)) (dRet (dC (.bl true)))))))))))))))
def phi_law_v9 : Phi := dDef 25 den_law_v9
end KR
set_option Elab.async false
set_option linter.all false
set_option maxRecDepth 100000
set_option maxHeartbeats 2000000
namespace KR
open PySem L2
/-- k32 law, 0:_law_script 1:_law_d 2:_law_case 3:_law_persons 4:_law_keys 5:_law_doors 6:_law_kinds 7:_law_moved 8:_law_opens 9:_law_plain 10:_law_rows 11:_law_other 12:_law_one 13:_law_two 14:_law_moment 15:_law_door 16:_law_due 17:_law_person 18:_law_found 19:_law_more 20:_law_kind 21:_law_row 22:_law_k -/
def den_law_v10 : DS := (dSeq (dAsg (dCall 1 phi_l_dice (dCons (dVar 0) dNil)) (pNm 1)) (dSeq (dAsg (dCall 2 phi_l_story (dCons (dVar 1) (dCons (dC (.int 36)) dNil))) (pNm 2)) (dSeq (dAsg (dVar 2) (pTp (psLen 3 (psCons (pNm 3) (psCons (pNm 4) (psCons (pNm 5) psNil)))))) (dSeq (dAsg (dN opTup (dCons (dCall 2 phi_l_order (dCons (dVar 1) (dCons (dC (.int 10)) dNil))) (dCons (dLstH dNil) dNil))) (pTp (psLen 2 (psCons (pNm 6) (psCons (pNm 7) psNil))))) (dSeq (dFor (iSeq' (dVar 4)) (pTp (psLen 3 (psCons (pNm 8) (psCons (pNm 9) (psCons (pNm 10) psNil))))) (dDrop (dBM mAppend (dVar 7) (dCons (dN opTup (dCons (dN opTuple (dCons (dN opSorted (dCons (dLc (iSeq' (dVar 8)) (pNm 20) dYes (d2 opIx (dVar 6) (dVar 20)) [20]) dNil)) dNil)) (dCons (dVar 9) (dCons (dVar 10) dNil)))) dNil)))) (dSeq (dAsg (dN opTup (dCons (dVar 3) (dCons (dVar 7) (dCons (dLc (iSeq' (dVar 5)) (pNm 10) dYes (dLc (iSeq' (dVar 10)) (pNm 21) dYes (d2 opAdd (dN opTup (dCons (d2 opIx (dVar 6) (d2 opIx (dVar 21) (dC (.int 0)))) dNil)) (dSl opSl (dVar 21) (doSo (dC (.int 1))) doNo)) [21]) [10]) dNil)))) (pNm 11)) (dSeq (dPar 12 13 (dCall 1 phi_l_written (dCons (dVar 2) dNil)) (dCall 1 phi_l_written (dCons (dVar 11) dNil))) (dSeq (dFor (iSeq' (dLc (iR1 (dC (.int 5))) (pNm 22) dYes (dCall 2 phi_l_next (dCons (dVar 1) (dCons (dC (.int 24)) dNil))) [22])) (pNm 14) (dSeq (dIfS (dT (d2 opNe (dCall 3 phi_l_words (dCons (dVar 12) (dCons (dVar 2) (dCons (dVar 14) dNil)))) (dCall 3 phi_l_words (dCons (dVar 13) (dCons (dVar 2) (dCons (dVar 14) dNil)))))) (dRet (dC (.bl false))) dSkip) (dFor (iR1 (dN opLen (dCons (dVar 5) dNil))) (pNm 15) (dSeq (dAsg (dN opSorted (dCons (dLc (iSeq' (dMeth "locks" 3 phi_Book_locks (dVar 12) (dCons (dVar 15) (dCons (dVar 14) dNil)))) (pNm 20) dYes (dIf (dT (d2 opGe (dVar 20) (dC (.int 0)))) (d2 opIx (dVar 6) (dVar 20)) (dVar 20)) [20]) dNil)) (pNm 16)) (dSeq (dIfS (dT (d2 opNe (dMeth "locks" 3 phi_Book_locks (dVar 13) (dCons (dVar 15) (dCons (dVar 14) dNil))) (dVar 16))) (dRet (dC (.bl false))) dSkip) (dFor (iR1 (dVar 3)) (pNm 17) (dSeq (dPar 18 19 (dCall 4 phi_shown (dCons (dVar 12) (dCons (dVar 17) (dCons (dVar 15) (dCons (dVar 14) dNil))))) (dCall 4 phi_shown (dCons (dVar 13) (dCons (dVar 17) (dCons (dVar 15) (dCons (dVar 14) dNil)))))) (dSeq (dIfS (dT (d2 opNe (d2 opIs (dVar 18) (dC .non)) (d2 opIs (dVar 19) (dC .non)))) (dRet (dC (.bl false))) dSkip) (dIfS (dT (d2 opNe (d2 opIs (dCall 4 phi_denied (dCons (dVar 12) (dCons (dVar 17) (dCons (dVar 15) (dCons (dVar 14) dNil))))) (dC .non)) (d2 opIs (dCall 4 phi_denied (dCons (dVar 13) (dCons (dVar 17) (dCons (dVar 15) (dCons (dVar 14) dNil))))) (dC .non)))) (dRet (dC (.bl false))) dSkip))))))))) (dRet (d2 opEq (dCall 3 phi_first (dCons (dVar 12) (dCons (dC (.int 0)) (dCons (dC (.int 0)) dNil)))) (dCall 3 phi_first (dCons (dVar 13) (dCons (dC (.int 0)) (dCons (dC (.int 0)) dNil))))))))))))))
def phi_law_v10 : Phi := dDef 23 den_law_v10
end KR
set_option Elab.async false
set_option linter.all false
set_option maxRecDepth 100000
set_option maxHeartbeats 2000000
namespace KR
open PySem L2
/-- k33 _law_places, 0:_law_order_here 1:_law_found 2:_law_here 3:_law_k 4:_law_place 5:_law_one -/
def den_l_places : DS := (dSeq (dPar 1 2 (dLstH dNil) (dLstH dNil)) (dSeq (dFor (iSeq' (dVar 0)) (pNm 3) (dSeq (dAsg (dN opLen (dCons (dLc (iSeq' (dVar 2)) (pNm 5) (dT (d2 opLt (dVar 5) (dVar 3))) (dVar 5) [5]) dNil)) (pNm 4)) (dSeq (dDrop (dBM mAppend (dVar 1) (dCons (dN opTup (dCons (dVar 3) (dCons (dVar 4) dNil))) dNil))) (dDrop (dBM mAppend (dVar 2) (dCons (dVar 3) dNil)))))) (dRet (dVar 1))))
def phi_l_places : Phi := dDef 6 den_l_places
/-- k33 law, 0:_law_script 1:_law_d 2:_law_case 3:_law_persons 4:_law_keys 5:_law_doors 6:_law_one 7:_law_two 8:_law_name 9:_law_opens 10:_law_plain 11:_law_rows 12:_law_k 13:_law_place 14:_law_door 15:_law_moment -/
def den_law_v11 : DS := (dSeq (dAsg (dCall 1 phi_l_dice (dCons (dVar 0) dNil)) (pNm 1)) (dSeq (dAsg (dCall 2 phi_l_story (dCons (dVar 1) (dCons (dC (.int 40)) dNil))) (pNm 2)) (dSeq (dAsg (dVar 2) (pTp (psLen 3 (psCons (pNm 3) (psCons (pNm 4) (psCons (pNm 5) psNil)))))) (dSeq (dAsg (dN opTup (dCons (dCall 1 phi_l_written (dCons (dVar 2) dNil)) (dCons (dMake 3 phi_Book_init (dCons (dVar 3) (dCons (dN opLen (dCons (dVar 5) dNil)) dNil))) dNil))) (pTp (psLen 2 (psCons (pNm 6) (psCons (pNm 7) psNil))))) (dSeq (dFor (iR1 (dN opLen (dCons (dVar 4) dNil))) (pNm 8) (dSeq (dAsg (d2 opIx (dVar 4) (dVar 8)) (pTp (psLen 3 (psCons (pNm 9) (psCons (pNm 10) (psCons (pNm 11) psNil)))))) (dSeq (dIfS (dT (d2 opNe (dMeth "cut" 3 phi_Book_cut (dVar 7) (dCons (dVar 9) (dCons (dVar 10) dNil))) (dVar 8))) (dRet (dC (.bl false))) dSkip) (dFor (iSeq' (dCall 1 phi_l_places (dCons (dCall 2 phi_l_order (dCons (dVar 1) (dCons (dN opLen (dCons (dVar 11) dNil)) dNil))) dNil))) (pTp (psLen 2 (psCons (pNm 12) (psCons (pNm 13) psNil)))) (dDrop (dMeth "hand" 6 phi_Book_hand_v2 (dVar 7) (dCons (dVar 8) (dCons (dVar 13) (dCons (d2 opIx (d2 opIx (dVar 11) (dVar 12)) (dC (.int 0))) (dCons (d2 opIx (d2 opIx (dVar 11) (dVar 12)) (dC (.int 1))) (dCons (d2 opIx (d2 opIx (dVar 11) (dVar 12)) (dC (.int 2))) dNil))))))))))) (dSeq (dFor (iR1 (dN opLen (dCons (dVar 5) dNil))) (pNm 14) (dFor (iSeq' (dCall 1 phi_l_places (dCons (d1 opRev (d1 opLRg (dN opLen (dCons (d2 opIx (dVar 5) (dVar 14)) dNil)))) dNil))) (pTp (psLen 2 (psCons (pNm 12) (psCons (pNm 13) psNil)))) (dDrop (dMeth "fit" 6 phi_Book_fit_v2 (dVar 7) (dCons (dVar 14) (dCons (dVar 13) (dCons (d2 opIx (d2 opIx (d2 opIx (dVar 5) (dVar 14)) (dVar 12)) (dC (.int 0))) (dCons (d2 opIx (d2 opIx (d2 opIx (dVar 5) (dVar 14)) (dVar 12)) (dC (.int 1))) (dCons (d2 opIx (d2 opIx (d2 opIx (dVar 5) (dVar 14)) (dVar 12)) (dC (.int 2))) dNil))))))))) (dSeq (dFor (iR1 (dN opLen (dCons (dVar 4) dNil))) (pNm 8) (dSeq (dIfS (dT (d2 opNe (dMeth "entries" 2 phi_Book_entries (dVar 7) (dCons (dVar 8) dNil)) (d2 opIx (d2 opIx (dVar 4) (dVar 8)) (dC (.int 2))))) (dRet (dC (.bl false))) dSkip) (dIfS (dT (d2 opNe (dMeth "entries" 2 phi_Book_entries (dVar 6) (dCons (dVar 8) dNil)) (d2 opIx (d2 opIx (dVar 4) (dVar 8)) (dC (.int 2))))) (dRet (dC (.bl false))) dSkip))) (dSeq (dFor (iR1 (dN opLen (dCons (dVar 5) dNil))) (pNm 14) (dIfS (dOr (dT (d2 opNe (dMeth "fitted" 2 phi_Book_fitted (dVar 7) (dCons (dVar 14) dNil)) (d2 opIx (dVar 5) (dVar 14)))) (dT (d2 opNe (dMeth "fitted" 2 phi_Book_fitted (dVar 6) (dCons (dVar 14) dNil)) (d2 opIx (dVar 5) (dVar 14))))) (dRet (dC (.bl false))) dSkip)) (dSeq (dFor (iSeq' (dLc (iR1 (dC (.int 5))) (pNm 12) dYes (dCall 2 phi_l_next (dCons (dVar 1) (dCons (dC (.int 24)) dNil))) [12])) (pNm 15) (dSeq (dIfS (dT (d2 opNe (dCall 3 phi_l_words (dCons (dVar 6) (dCons (dVar 2) (dCons (dVar 15) dNil)))) (dCall 3 phi_l_words (dCons (dVar 7) (dCons (dVar 2) (dCons (dVar 15) dNil)))))) (dRet (dC (.bl false))) dSkip) (dIfS (dT (d2 opNe (dLc (iR1 (dN opLen (dCons (dVar 4) dNil))) (pNm 12) dYes (dMeth "holders" 3 phi_Book_holders (dVar 6) (dCons (dVar 12) (dCons (dVar 15) dNil))) [12]) (dLc (iR1 (dN opLen (dCons (dVar 4) dNil))) (pNm 12) dYes (dMeth "holders" 3 phi_Book_holders (dVar 7) (dCons (dVar 12) (dCons (dVar 15) dNil))) [12]))) (dRet (dC (.bl false))) dSkip))) (dRet (dC (.bl true))))))))))))
def phi_law_v11 : Phi := dDef 16 den_law_v11
end KR
set_option Elab.async false
set_option linter.all false
set_option maxRecDepth 100000
set_option maxHeartbeats 2000000
namespace KR
open PySem L2
/-- k38 _law_within, 0:_law_rows 1:_law_moments 2:_law_k -/
def den_l_within : DS := (dSeq (dIfS (dOr (dT (d2 opNe (dN opLen (dCons (dVar 0) dNil)) (dN opLen (dCons (dVar 1) dNil)))) (dT (d2 opNe (dN opList (dCons (dVar 1) dNil)) (dN opSorted (dCons (dVar 1) dNil))))) (dRet (dC (.bl false))) dSkip) (dRet (d2 opEq (dLc (iR1 (dN opLen (dCons (dVar 0) dNil))) (pNm 2) (dNot (dT (dChain opLe opLe (d2 opIx (d2 opIx (dVar 0) (dVar 2)) (dC (.int 1))) (d2 opIx (dVar 1) (dVar 2)) (d2 opIx (d2 opIx (dVar 0) (dVar 2)) (dC (.int 2)))))) (dVar 2) [2]) (dN opLst dNil))))
def phi_l_within : Phi := dDef 3 den_l_within
/-- k38 _law_narrowed, 0:_law_rows 1:_law_moments 2:_law_k -/
def den_l_narrowed : DS := (dRet (dLc (iR1 (dN opLen (dCons (dVar 0) dNil))) (pNm 2) dYes (dN opTup (dCons (d2 opIx (d2 opIx (dVar 0) (dVar 2)) (dC (.int 0))) (dCons (d2 opIx (dVar 1) (dVar 2)) (dCons (d2 opIx (dVar 1) (dVar 2)) dNil)))) [2]))
def phi_l_narrowed : Phi := dDef 3 den_l_narrowed
/-- k38 law, 0:_law_script 1:_law_d 2:_law_case 3:_law_persons 4:_law_keys 5:_law_doors 6:_law_book 7:_law_turn_here 8:_law_person 9:_law_door 10:_law_moment 11:_law_word 12:_law_found 13:_law_other 14:_law_name 15:_law_moments 16:_law_when 17:_law_fits_here 18:_law_opens 19:_law_plain 20:_law_rows 21:_law_narrow 22:_law_lists 23:_law_some 24:_law_k -/
def den_law_v12 : DS := (dSeq (dAsg (dCall 1 phi_l_dice (dCons (dVar 0) dNil)) (pNm 1)) (dSeq (dAsg (dCall 2 phi_l_story (dCons (dVar 1) (dCons (dC (.int 36)) dNil))) (pNm 2)) (dSeq (dAsg (dVar 2) (pTp (psLen 3 (psCons (pNm 3) (psCons (pNm 4) (psCons (pNm 5) psNil)))))) (dSeq (dAsg (dCall 1 phi_l_written (dCons (dVar 2) dNil)) (pNm 6)) (dSeq (dFor (iR1 (dC (.int 6))) (pNm 7) (dSeq (dPar3 8 9 10 (dCall 2 phi_l_next (dCons (dVar 1) (dCons (dVar 3) dNil))) (dCall 2 phi_l_next (dCons (dVar 1) (dCons (dN opLen (dCons (dVar 5) dNil)) dNil))) (dCall 2 phi_l_next (dCons (dVar 1) (dCons (dC (.int 24)) dNil)))) (dSeq (dAsg (dCall 4 phi_could (dCons (dVar 6) (dCons (dVar 8) (dCons (dVar 9) (dCons (dVar 10) dNil))))) (pNm 11)) (dSeq (dPar 12 13 (dCall 4 phi_shown (dCons (dVar 6) (dCons (dVar 8) (dCons (dVar 9) (dCons (dVar 10) dNil))))) (dCall 4 phi_denied (dCons (dVar 6) (dCons (dVar 8) (dCons (dVar 9) (dCons (dVar 10) dNil)))))) (dSeq (dIfS (dOr (dT (d2 opNe (d2 opIs (dVar 12) (dC .non)) (d2 opEq (dVar 11) (dC (.str "no"))))) (dT (d2 opNe (d2 opIs (dVar 13) (dC .non)) (d2 opEq (dVar 11) (dC (.str "surely")))))) (dRet (dC (.bl false))) dSkip) (dSeq (dIfS (dT (d2 opIsNot (dVar 12) (dC .non))) (dSeq (dAsg (dVar 12) (pTp (psLen 4 (psCons (pNm 14) (psCons (pNm 15) (psCons (pNm 16) (psCons (pNm 17) psNil))))))) (dSeq (dAsg (d2 opIx (dVar 4) (dVar 14)) (pTp (psLen 3 (psCons (pNm 18) (psCons (pNm 19) (psCons (pNm 20) psNil)))))) (dSeq (dIfS (dNot (dT (dCall 2 phi_l_within (dCons (dVar 20) (dCons (dVar 15) dNil))))) (dRet (dC (.bl false))) dSkip) (dSeq (dIfS (dNot (dT (dCall 2 phi_l_within (dCons (d2 opIx (dVar 5) (dVar 9)) (dCons (dVar 17) dNil))))) (dRet (dC (.bl false))) dSkip) (dSeq (dIfS (dNot (dT (dChain opLe opLe (dC (.int 0)) (dVar 16) (dVar 10)))) (dRet (dC (.bl false))) dSkip) (dSeq (dAsg (dN opTup (dCons (dVar 3) (dCons (dN opLst (dCons (dN opTup (dCons (dVar 18) (dCons (dVar 19) (dCons (dCall 2 phi_l_narrowed (dCons (dVar 20) (dCons (dVar 15) dNil))) dNil)))) dNil)) (dCons (dN opLst (dCons (dCall 2 phi_l_narrowed (dCons (d2 opIx (dVar 5) (dVar 9)) (dCons (dVar 17) dNil))) dNil)) dNil)))) (pNm 21)) (dSeq (dIfS (dT (d2 opEq (dCall 4 phi_could (dCons (dCall 1 phi_l_written (dCons (dVar 21) dNil)) (dCons (dVar 8) (dCons (dC (.int 0)) (dCons (dVar 10) dNil))))) (dC (.str "no")))) (dRet (dC (.bl false))) dSkip) (dIfS (dAnd (dT (d2 opLt (dVar 16) (dVar 10))) (dNot (dT (dVar 19)))) (dRet (dC (.bl false))) dSkip)))))))) dSkip) (dIfS (dT (d2 opIsNot (dVar 13) (dC .non))) (dSeq (dAsg (dVar 13) (pTp (psLen 2 (psCons (pNm 22) (psCons (pNm 17) psNil))))) (dSeq (dAsg (dLc (iR1 (dN opLen (dCons (dVar 4) dNil))) (pNm 24) dYes (dN opTup (dCons (d2 opIx (d2 opIx (dVar 4) (dVar 24)) (dC (.int 0))) (dCons (d2 opIx (d2 opIx (dVar 4) (dVar 24)) (dC (.int 1))) (dCons (dCall 2 phi_l_narrowed (dCons (d2 opIx (d2 opIx (dVar 4) (dVar 24)) (dC (.int 2))) (dCons (d2 opIx (dVar 22) (dVar 24)) dNil))) dNil)))) [24]) (pNm 23)) (dSeq (dIfS (dT (d2 opNe (dLc (iR1 (dN opLen (dCons (dVar 4) dNil))) (pNm 24) (dNot (dT (dCall 2 phi_l_within (dCons (d2 opIx (d2 opIx (dVar 4) (dVar 24)) (dC (.int 2))) (dCons (d2 opIx (dVar 22) (dVar 24)) dNil))))) (dVar 24) [24]) (dN opLst dNil))) (dRet (dC (.bl false))) dSkip) (dSeq (dAsg (dN opTup (dCons (dVar 3) (dCons (dVar 23) (dCons (dN opLst (dCons (dCall 2 phi_l_narrowed (dCons (d2 opIx (dVar 5) (dVar 9)) (dCons (dVar 17) dNil))) dNil)) dNil)))) (pNm 21)) (dIfS (dT (d2 opEq (dCall 4 phi_could (dCons (dCall 1 phi_l_written (dCons (dVar 21) dNil)) (dCons (dVar 8) (dCons (dC (.int 0)) (dCons (dVar 10) dNil))))) (dC (.str "surely")))) (dRet (dC (.bl false))) dSkip))))) dSkip))))))) (dRet (dC (.bl true))))))))
def phi_law_v12 : Phi := dDef 25 den_law_v12
end KR
set_option Elab.async false
set_option linter.all false
set_option maxRecDepth 100000
set_option maxHeartbeats 2000000
namespace KR
open PySem L2
/-! ### range with a step -/
def iR3k (x y z : D) (o : Om) : Res Src := match x, y, z with
  | .int i, .int j, .int c => if c ≠ 0 ∧ c.natAbs < 1073741824 ∧ Builtin.Range.small i j c = true ∧ 0 ≤ Builtin.Range.rangeSize i j c ∧ Builtin.Range.rangeSize i j c ≤ 100000 then .ok (.rgc i c (Builtin.Range.rangeSize i j c).toNat) o else .bad
  | _, _, _ => .bad
def iR3 (f g h : DE) : DI := fun ρ o => (f ρ o).bind fun x o1 => (g ρ o1).bind fun y o2 => (h ρ o2).bind fun z o3 => iR3k x y z o3
section
variable {X : Cx} {C : Addr} {E : XK} {a b c tg : Expr} {f g h : DE} {pos : Pos}
theorem jok_c {K : PySem.W.Frag} {F : Hp} {B : List Addr} (lo c : Int) (n : Nat) : JOk K C F B (Itc lo c n) (.rgc lo c n) := by
  intro F' H' B' o i _ _ _ _
  constructor
  · intro e
    have e' : (if i < n then some (D.int (lo + i * c)) else none) = none := Option.some.inj e
    show n ≤ i
    by_cases h : i < n
    · rw [if_pos h] at e'; cases e'
    · omega
  · intro x e
    have e' : (if i < n then some (D.int (lo + i * c)) else none) = some x := Option.some.inj e
    by_cases h : i < n
    · rw [if_pos h] at e'; cases e'
      exact ⟨h, fun v H'' ⟨y1, y2⟩ => ⟨y1, by rw [y2]; exact .int _⟩⟩
    · rw [if_neg h] at e'; cases e'
theorem iRng3 {p : Pos} (hm : X.mg "range" = none) (ha : EX X C E a f) (hb : EX X C E b g) (hc : EX X C E c h) (hg : Gl X "range" := by rfl) (hs : starEach [a, b, c] X.env = (false, eval a X.env) :: starEach [b, c] X.env := by rfl) (hs2 : starEach [b, c] X.env = (false, eval b X.env) :: starEach [c] X.env := by rfl)
    (hs3 : starEach [c] X.env = (false, eval c X.env) :: starEach [] X.env := by rfl) (hpl : (backTo pos (starEach [b, c] X.env)).any (·.1) = false := by rfl) :
    EI X C E tg (.Call (.Name "range" p) [a, b, c] [] pos) (iR3 f g h) := by
  refine PI.imp (pi_range3 hg hm (aCons ha (aCons hb (aCons hc aNil hs3) hs2) hs) hs hpl) fun σ H R ⟨F, B, ρ, o, e, st, n, c⟩ => ⟨F, B, ρ, o, e, st, n, ?_⟩
  have c' : Con X.K C (JOk X.K C) E F H B R ((dCons f (dCons g (dCons h dNil)) ρ o).bind fun xs o1 => match xs with | [x, y, z] => iR3k x y z o1 | _ => .bad) := by
    unfold iR3 at c
    unfold dCons dNil
    cases q1 : f ρ o with
    | ok x o1 =>
      rw [q1] at c
      simp only [Res.bind_ok] at c ⊢
      cases q2 : g ρ o1 with
      | ok y o2 =>
        rw [q2] at c
        simp only [Res.bind_ok] at c ⊢
        cases q3 : h ρ o2 with
        | ok z o3 => rw [q3] at c; exact c
        | exc xc o3 => rw [q3] at c; exact c
        | bad => rw [q3] at c; exact c.elim
      | exc xc o2 => rw [q2] at c; exact c
      | bad => rw [q2] at c; exact c.elim
    | exc xc o1 => rw [q1] at c; exact c
    | bad => rw [q1] at c; exact c.elim
  refine Con.then c' fun xs o1 F1 H1 B1 vs st1 s1 i1 c1 => ?_
  match xs, i1, c1 with
  | [x, y, z], i1, c1 =>
    obtain ⟨v, u, w, rfl, i, j, k⟩ := three_of i1
    cases i with
    | int m =>
      cases j with
      | int n =>
        cases k with
        | int c =>
          have c2 : Con X.K C (JOk X.K C) E F1 H1 B1 R (if c ≠ 0 ∧ c.natAbs < 1073741824 ∧ Builtin.Range.small m n c = true ∧ 0 ≤ Builtin.Range.rangeSize m n c ∧ Builtin.Range.rangeSize m n c ≤ 100000 then .ok (.rgc m c (Builtin.Range.rangeSize m n c).toNat) o1 else .bad) := c1
          by_cases hj : c ≠ 0 ∧ c.natAbs < 1073741824 ∧ Builtin.Range.small m n c = true ∧ 0 ≤ Builtin.Range.rangeSize m n c ∧ Builtin.Range.rangeSize m n c ≤ 100000
          · rw [if_pos hj] at c2
            exact ⟨m, n, c, _, rfl, ⟨hj.1, hj.2.1, hj.2.2.1, by omega⟩, Con.pure (rel := JOk X.K C) c2 (Grow.refl st1.fh) s1 (jok_c m c _)⟩
          · rw [if_neg hj] at c2; exact c2.elim
        | _ => exact c1.elim
      | _ => cases k <;> exact c1.elim
    | _ => cases j <;> cases k <;> exact c1.elim
  | [], _, c1 => exact c1.elim
  | [_], _, c1 => exact c1.elim
  | [_, _], _, c1 => exact c1.elim
  | _ :: _ :: _ :: _ :: _, _, c1 => exact c1.elim
end
end KR
set_option Elab.async false
set_option linter.all false
set_option maxRecDepth 100000
set_option maxHeartbeats 2000000
namespace KR
open PySem L2
/-- k36 law, 0:_law_script 1:_law_d 2:_law_persons 3:_law_keys 4:_law_doors 5:_law_kind 6:_law_case 7:_law_none 8:_law_every 9:_law_books 10:_law_last 11:_law_moment 12:_law_rows 13:_law_door 14:_law_person 15:_law_ranks 16:_law_here 17:_law_held 18:_law_opens 19:_law_plain 20:_law_one 21:_law_book 22:_law_row 23:_law_rank 24:_law_word 25:_law_name -/
def den_law_v13 : DS := (dSeq (dAsg (dCall 1 phi_l_dice (dCons (dVar 0) dNil)) (pNm 1)) (dSeq (dAsg (dCall 2 phi_l_story (dCons (dVar 1) (dCons (dC (.int 36)) dNil))) (pTp (psLen 3 (psCons (pNm 2) (psCons (pNm 3) (psCons (pNm 4) psNil)))))) (dSeq (dAsg (dCall 2 phi_l_next (dCons (dVar 1) (dCons (dC (.int 3)) dNil))) (pNm 5)) (dSeq (dAsg (d2 opAdd (dLc (iSeq' (dVar 4)) (pNm 12) dYes (dVar 12) [12]) (dN opLst (dCons (dN opLst (dCons (dN opTup (dCons (dVar 5) (dCons (dC (.int 0)) (dCons (dC (.int 0)) dNil)))) dNil)) dNil))) (pNm 4)) (dSeq (dAsg (dN opTup (dCons (dVar 2) (dCons (dVar 3) (dCons (dVar 4) dNil)))) (pNm 6)) (dSeq (dAsg (dN opTup (dCons (dVar 2) (dCons (dLc (iSeq' (dVar 3)) (pTp (psLen 3 (psCons (pNm 18) (psCons (pNm 19) (psCons (pNm 12) psNil))))) dYes (dN opTup (dCons (dVar 18) (dCons (dC (.bl false)) (dCons (dVar 12) dNil)))) [18, 19, 12]) (dCons (dVar 4) dNil)))) (pNm 7)) (dSeq (dAsg (dN opTup (dCons (dVar 2) (dCons (dLc (iSeq' (dVar 3)) (pTp (psLen 3 (psCons (pNm 18) (psCons (pNm 19) (psCons (pNm 12) psNil))))) dYes (dN opTup (dCons (dVar 18) (dCons (dC (.bl true)) (dCons (dVar 12) dNil)))) [18, 19, 12]) (dCons (dVar 4) dNil)))) (pNm 8)) (dSeq (dAsg (dN opTup (dCons (dLc (iSeq' (dN opTup (dCons (dVar 7) (dCons (dVar 6) (dCons (dVar 8) dNil))))) (pNm 20) dYes (dCall 1 phi_l_written (dCons (dVar 20) dNil)) [20]) (dCons (d2 opMul (dN opLst (dCons (dC (.bl false)) dNil)) (dVar 2)) dNil))) (pTp (psLen 2 (psCons (pNm 9) (psCons (pNm 10) psNil))))) (dSeq (dFor (iR3 (dC (.int 0)) (dC (.int 30)) (d2 opAdd (dC (.int 1)) (dCall 2 phi_l_next (dCons (dVar 1) (dCons (dC (.int 4)) dNil))))) (pNm 11) (dSeq (dAsg (dLc (iSeq' (dVar 9)) (pNm 21) dYes (dCall 3 phi_l_words (dCons (dVar 21) (dCons (dVar 6) (dCons (dVar 11) dNil)))) [21]) (pNm 12)) (dSeq (dFor (iR1 (dN opLen (dCons (dVar 4) dNil))) (pNm 13) (dFor (iR1 (dVar 2)) (pNm 14) (dSeq (dAsg (dLc (iSeq' (dVar 12)) (pNm 22) dYes (dRM opIdx (dN opLst (dCons (dC (.str "no")) (dCons (dC (.str "maybe")) (dCons (dC (.str "surely")) dNil)))) (d2 opIx (d2 opIx (dVar 22) (dVar 13)) (dVar 14))) [22]) (pNm 15)) (dIfS (dOr (dT (d2 opNe (dVar 15) (dN opSorted (dCons (dVar 15) dNil)))) (dT (d2 opNe (d1 opLSet (dLc (iSeq' (dVar 15)) (pNm 23) dYes (d2 opEq (dVar 23) (dC (.int 2))) [23])) (dC (.int 1))))) (dRet (dC (.bl false))) dSkip)))) (dSeq (dAsg (dLc (iSeq' (d2 opIx (d2 opIx (dVar 12) (dC (.int 2))) (d1 opNeg (dC (.int 1))))) (pNm 24) dYes (d2 opNe (dVar 24) (dC (.str "no"))) [24]) (pNm 16)) (dSeq (dIfS (dT (d2 opNe (dLc (iR1 (dVar 2)) (pNm 14) (dAnd (dT (d2 opIx (dVar 10) (dVar 14))) (dNot (dT (d2 opIx (dVar 16) (dVar 14))))) (dVar 14) [14]) (dN opLst dNil))) (dRet (dC (.bl false))) dSkip) (dSeq (dAsg (dVar 16) (pNm 10)) (dFor (iR1 (dVar 2)) (pNm 14) (dSeq (dAsg (dLc (iR1 (dN opLen (dCons (dVar 3) dNil))) (pNm 25) (dT (d2 opIn (dVar 14) (d2 opIx (dMeth "holders" 3 phi_Book_holders (d2 opIx (dVar 9) (dC (.int 0))) (dCons (dVar 25) (dCons (dVar 11) dNil))) (dC (.int 1))))) (dVar 25) [25]) (pNm 17)) (dIfS (dT (d2 opNe (d2 opEq (d2 opIx (d2 opIx (d2 opIx (dVar 12) (dC (.int 0))) (d1 opNeg (dC (.int 1)))) (dVar 14)) (dC (.str "no"))) (d2 opEq (dLc (iSeq' (dVar 17)) (pNm 25) (dT (d2 opIn (dVar 5) (d2 opIx (d2 opIx (dVar 3) (dVar 25)) (dC (.int 0))))) (dVar 25) [25]) (dN opLst dNil)))) (dRet (dC (.bl false))) dSkip))))))))) (dRet (dC (.bl true))))))))))))
def phi_law_v13 : Phi := dDef 26 den_law_v13
end KR
set_option Elab.async false
set_option linter.all false
set_option maxRecDepth 100000
set_option maxHeartbeats 2000000
namespace KR
open PySem L2
/-- k11 _law_is, 0:_law_book 1:_law_case 2:_law_moments 3:_law_persons 4:_law_keys 5:_law_doors 6:_law_moment 7:_law_name 8:_law_some 9:_law_every 10:_law_sure 11:_law_found 12:_law_door 13:_law_words 14:_law_person -/
def den_l_is : DS := (dSeq (dAsg (dVar 1) (pTp (psLen 3 (psCons (pNm 3) (psCons (pNm 4) (psCons (pNm 5) psNil)))))) (dSeq (dFor (iSeq' (dVar 2)) (pNm 6) (dSeq (dFor (iR1 (dN opLen (dCons (dVar 4) dNil))) (pNm 7) (dSeq (dAsg (dCall 2 phi_l_may (dCons (d2 opIx (d2 opIx (dVar 4) (dVar 7)) (dC (.int 2))) (dCons (dVar 6) dNil))) (pNm 8)) (dSeq (dAsg (dLc (iR1 (dVar 3)) (pNm 14) (dOr (dT (d2 opIn (dVar 14) (dVar 8))) (dT (d2 opIn (dC .non) (dVar 8)))) (dVar 14) [14]) (pNm 9)) (dSeq (dAsg (dIf (dAnd (dT (d2 opEq (d1 opLSet (dVar 8)) (dC (.int 1)))) (dT (d2 opIn (d2 opIx (dVar 8) (dC (.int 0))) (dVar 9)))) (d2 opIx (dVar 8) (dC (.int 0))) (dC .non)) (pNm 10)) (dSeq (dAsg (dMeth "holders" 3 phi_Book_holders_v2 (dVar 0) (dCons (dVar 7) (dCons (dVar 6) dNil))) (pNm 11)) (dSeq (dIfS (dNot (dT (dCall 2 (phi_l_like 5) (dCons (dVar 11) (dCons (dN opTup (dCons (dVar 10) (dCons (dVar 9) dNil))) dNil))))) (dRet (dC (.bl false))) dSkip) (dDrop (dBM mAppend (d2 opIx (dVar 11) (dC (.int 1))) (dCons (d1 opNeg (dC (.int 3))) dNil))))))))) (dFor (iR1 (dN opLen (dCons (dVar 5) dNil))) (pNm 12) (dSeq (dIfS (dNot (dT (dCall 2 (phi_l_like 5) (dCons (dMeth "locks" 3 phi_Book_locks (dVar 0) (dCons (dVar 12) (dCons (dVar 6) dNil))) (dCons (d1 opSSet (dCall 2 phi_l_may (dCons (d2 opIx (dVar 5) (dVar 12)) (dCons (dVar 6) dNil)))) dNil))))) (dRet (dC (.bl false))) dSkip) (dSeq (dAsg (dLc (iR1 (dVar 3)) (pNm 14) dYes (dCall 4 phi_l_could (dCons (dVar 1) (dCons (dVar 14) (dCons (dVar 12) (dCons (dVar 6) dNil))))) [14]) (pNm 13)) (dSeq (dIfS (dNot (dT (dCall 2 (phi_l_like 5) (dCons (dLc (iR1 (dVar 3)) (pNm 14) dYes (dCall 4 phi_could (dCons (dVar 0) (dCons (dVar 14) (dCons (dVar 12) (dCons (dVar 6) dNil))))) [14]) (dCons (dVar 13) dNil))))) (dRet (dC (.bl false))) dSkip) (dSeq (dAsg (dLc (iR1 (dVar 3)) (pNm 14) (dT (d2 opEq (d2 opIx (dVar 13) (dVar 14)) (dC (.str "surely")))) (dVar 14) [14]) (pNm 10)) (dIfS (dNot (dT (dCall 2 (phi_l_like 5) (dCons (d2 opIx (dCall 3 phi_openers (dCons (dVar 0) (dCons (dVar 12) (dCons (dVar 6) dNil)))) (dC (.int 0))) (dCons (dVar 10) dNil))))) (dRet (dC (.bl false))) dSkip)))))))) (dRet (dC (.bl true)))))
def phi_l_is : Phi := dDef 15 den_l_is
/-- k11 law, 0:_law_script 1:_law_d 2:_law_persons 3:_law_many 4:_law_case 5:_law_book 6:_law_moments 7:_law_turn_here 8:_law_door 9:_law_k -/
def den_law_v14 : DS := (dSeq (dAsg (dCall 1 phi_l_dice (dCons (dVar 0) dNil)) (pNm 1)) (dSeq (dPar 2 3 (d2 opAdd (dC (.int 1)) (dCall 2 phi_l_next (dCons (dVar 1) (dCons (dC (.int 4)) dNil)))) (d2 opAdd (dC (.int 1)) (dCall 2 phi_l_next (dCons (dVar 1) (dCons (dC (.int 2)) dNil))))) (dSeq (dAsg (dN opTup (dCons (dVar 2) (dCons (dLstH dNil) (dCons (dLcH (iR1 (dVar 3)) (pNm 8) dYes (dLstH dNil) [8]) dNil)))) (pNm 4)) (dSeq (dAsg (dMake 3 phi_Book_init (dCons (dVar 2) (dCons (dVar 3) dNil))) (pNm 5)) (dSeq (dAsg (dLc (iR1 (dC (.int 3))) (pNm 9) dYes (dCall 2 phi_l_next (dCons (dVar 1) (dCons (dC (.int 22)) dNil))) [9]) (pNm 6)) (dSeq (dFor (iR1 (dCall 2 phi_l_next (dCons (dVar 1) (dCons (dC (.int 41)) dNil)))) (pNm 7) (dSeq (dIfS (dNot (dT (dCall 3 phi_l_is (dCons (dVar 5) (dCons (dVar 4) (dCons (dVar 6) dNil)))))) (dRet (dC (.bl false))) dSkip) (dDrop (dCall 3 phi_l_turn (dCons (dVar 1) (dCons (dVar 5) (dCons (dVar 4) dNil))))))) (dRet (dCall 3 phi_l_is (dCons (dVar 5) (dCons (dVar 4) (dCons (dVar 6) dNil)))))))))))
def phi_law_v14 : Phi := dDef 10 den_law_v14
end KR
set_option Elab.async false
set_option linter.all false
set_option maxRecDepth 100000
set_option maxHeartbeats 2000000
namespace KR
open PySem L2
/-- k02 _law_put, 0:_law_d 1:_law_book_here 2:_law_own 3:_law_persons 4:_law_side 5:_law_some 6:_law_number 7:_law_rows 8:_law_place 9:_law_early 10:_law_late 11:_law_row_here 12:_law_found 13:_law_more 14:_law_bad 15:_law_due -/
def den_l_put : DS := (dSeq (dAsg (dCall 2 phi_l_next (dCons (dVar 0) (dCons (dC (.int 2)) dNil))) (pNm 4)) (dSeq (dAsg (d2 opIx (dVar 2) (dVar 4)) (pNm 5)) (dSeq (dIfS (dT (d2 opEq (dVar 5) (dN opLst dNil))) (dRet (dC (.bl true))) dSkip) (dSeq (dAsg (dCall 2 phi_l_next (dCons (dVar 0) (dCons (dN opLen (dCons (dVar 5) dNil)) dNil))) (pNm 6)) (dSeq (dAsg (d2 opIx (dVar 5) (dVar 6)) (pNm 7)) (dSeq (dAsg (dCall 2 phi_l_next (dCons (dVar 0) (dCons (d2 opAdd (dN opLen (dCons (dVar 7) dNil)) (dC (.int 1))) dNil))) (pNm 8)) (dSeq (dAsg (dCall 2 phi_l_window (dCons (dVar 0) (dCons (d2 opIx (dN opLst (dCons (dC (.int 6)) (dCons (dC (.int 30)) (dCons (dC (.int 999)) dNil)))) (dCall 2 phi_l_next (dCons (dVar 0) (dCons (dC (.int 3)) dNil)))) dNil))) (pTp (psLen 2 (psCons (pNm 9) (psCons (pNm 10) psNil))))) (dSeq (dIfS (dT (d2 opEq (dVar 4) (dC (.int 0)))) (dSeq (dAsg (dN opTup (dCons (d2 opIx (dN opLst (dCons (dCall 2 phi_l_next (dCons (dVar 0) (dCons (dVar 3) dNil))) (dCons (dC .non) dNil))) (dN opInt (dCons (d2 opEq (dCall 2 phi_l_next (dCons (dVar 0) (dCons (dC (.int 4)) dNil))) (dC (.int 3))) dNil))) (dCons (dVar 9) (dCons (dVar 10) dNil)))) (pNm 11)) (dAsg (dTold "_law_put" (dMeth "hand" 6 phi_Book_hand_v2 (dVar 1) (dCons (dVar 6) (dCons (dVar 8) (dCons (d2 opIx (dVar 11) (dC (.int 0))) (dCons (dVar 9) (dCons (dVar 10) dNil))))))) (pNm 12))) (dSeq (dAsg (dN opTup (dCons (dCall 2 phi_l_next (dCons (dVar 0) (dCons (dC (.int 10)) dNil))) (dCons (dVar 9) (dCons (dVar 10) dNil)))) (pNm 11)) (dAsg (dTold "_law_put" (dMeth "fit" 6 phi_Book_fit_v2 (dVar 1) (dCons (dVar 6) (dCons (dVar 8) (dCons (d2 opIx (dVar 11) (dC (.int 0))) (dCons (dVar 9) (dCons (dVar 10) dNil))))))) (pNm 12)))) (dSeq (dAsg (d2 opAdd (d2 opAdd (dSl opSl (dVar 7) doNo (doSo (dVar 8))) (dN opLst (dCons (dVar 11) dNil))) (dSl opSl (dVar 7) (doSo (dVar 8)) doNo)) (pNm 13)) (dSeq (dAsg (dCall 1 phi_l_fits (dCons (dVar 13) dNil)) (pNm 14)) (dSeq (dAsg (dIf (dT (d2 opIsNot (dVar 14) (dC .non))) (dN opTup (dCons (dC (.str "times")) (dCons (dVar 14) dNil))) (dC .non)) (pNm 15)) (dSeq (dIfS (dT (d2 opEq (dN opLen (dCons (dVar 7) dNil)) (dC (.int 8)))) (dAsg (dN opTup (dCons (dC (.str "place")) dNil)) (pNm 15)) dSkip) (dSeq (dIfS (dT (d2 opIs (dVar 15) (dC .non))) (dSetI (dVar 5) (dVar 6) (dVar 13)) dSkip) (dRet (dCall 2 (phi_l_like 5) (dCons (dVar 12) (dCons (dVar 15) dNil)))))))))))))))))
def phi_l_put : Phi := dDef 16 den_l_put
/-- k02 Book.entries, 0:self 1:name -/
def den_Book_entries_v2 : DS := (dSeq (dDrop (dMeth "need_key" 2 phi_Book_need_key (dVar 0) (dCons (dVar 1) dNil))) (dRet (dListH (d2 opIx (dFld "rows" (dVar 0)) (dVar 1)))))
def phi_Book_entries_v2 : Phi := dDef 2 den_Book_entries_v2
/-- k02 Book.fitted, 0:self 1:door -/
def den_Book_fitted_v2 : DS := (dSeq (dDrop (dMeth "need_door" 2 phi_Book_need_door (dVar 0) (dCons (dVar 1) dNil))) (dRet (dListH (d2 opIx (dFld "doors" (dVar 0)) (dVar 1)))))
def phi_Book_fitted_v2 : Phi := dDef 2 den_Book_fitted_v2
/-- k02 law own , 0:_law_script 1:_law_d 2:_law_sides 3:_law_k 4:_law_persons 5:_law_doors 6:_law_turn 7:_law_book_here 8:_law_own 9:_law_one 10:_law_many 11:_law_rows 12:_law_again 13:_law_found 14:_law_told_here 15:_law_row_here 16:_law_door 17:_law_name -/
def den_law_v15 : DS := (dSeq (dAsg (dCall 1 phi_l_dice (dCons (dVar 0) dNil)) (pNm 1)) (dSeq (dOwn 2 dNil) (dSeq (dFor (iR1 (dC (.int 2))) (pNm 3) (dSeq (dPar 4 5 (d2 opAdd (dC (.int 1)) (dCall 2 phi_l_next (dCons (dVar 1) (dCons (dC (.int 8)) dNil)))) (d2 opAdd (dC (.int 1)) (dCall 2 phi_l_next (dCons (dVar 1) (dCons (dC (.int 4)) dNil))))) (dApp 2 (dN opTup (dCons (dMake 3 phi_Book_init (dCons (dVar 4) (dCons (dVar 5) dNil))) (dCons (dVar 4) (dCons (dN opLst (dCons (dLstH dNil) (dCons (dLcH (iR1 (dVar 5)) (pNm 16) dYes (dN opLst dNil) [16]) dNil))) dNil))))))) (dSeq (dFz 2) (dSeq (dFor (iR1 (dCall 2 phi_l_next (dCons (dVar 1) (dCons (dC (.int 121)) dNil)))) (pNm 6) (dSeq (dAsg (d2 opIx (dVar 2) (dCall 2 phi_l_next (dCons (dVar 1) (dCons (dC (.int 2)) dNil)))) (pTp (psLen 3 (psCons (pNm 7) (psCons (pNm 4) (psCons (pNm 8) psNil)))))) (dSeq (dIfS (dAnd (dT (d2 opLt (dN opLen (dCons (d2 opIx (dVar 8) (dC (.int 0))) dNil)) (dC (.int 6)))) (dT (d2 opEq (dCall 2 phi_l_next (dCons (dVar 1) (dCons (dC (.int 8)) dNil))) (dC (.int 0))))) (dSeq (dIfS (dNot (dT (dCall 2 (phi_l_like 5) (dCons (dMeth "cut" 3 phi_Book_cut (dVar 7) (dCons (dN opTup (dCons (dC (.int 1)) (dCons (dC (.int 2)) dNil))) (dCons (dC (.bl false)) dNil))) (dCons (dN opLen (dCons (d2 opIx (dVar 8) (dC (.int 0))) dNil)) dNil))))) (dRet (dC (.bl false))) dSkip) (dDrop (dBM mAppend (d2 opIx (dVar 8) (dC (.int 0))) (dCons (dN opLst dNil) dNil)))) (dIfS (dNot (dT (dCall 4 phi_l_put (dCons (dVar 1) (dCons (dVar 7) (dCons (dVar 8) (dCons (dVar 4) dNil))))))) (dRet (dC (.bl false))) dSkip)) (dFor (iSeq' (dVar 2)) (pTp (psLen 3 (psCons (pNm 9) (psCons (pNm 10) (psCons (pNm 11) psNil))))) (dFor (iR1 (dC (.int 2))) (pNm 12) (dSeq (dAsg (dLc (iR1 (dN opLen (dCons (d2 opIx (dVar 11) (dC (.int 0))) dNil))) (pNm 17) dYes (dMeth "entries" 2 phi_Book_entries_v2 (dVar 9) (dCons (dVar 17) dNil)) [17]) (pNm 13)) (dSeq (dAsg (dLc (iR1 (dN opLen (dCons (d2 opIx (dVar 11) (dC (.int 1))) dNil))) (pNm 16) dYes (dMeth "fitted" 2 phi_Book_fitted_v2 (dVar 9) (dCons (dVar 16) dNil)) [16]) (pNm 14)) (dSeq (dIfS (dNot (dT (dCall 2 (phi_l_like 5) (dCons (dN opLst (dCons (dVar 13) (dCons (dVar 14) dNil))) (dCons (dVar 11) dNil))))) (dRet (dC (.bl false))) dSkip) (dFor (iSeq' (d2 opAdd (dVar 13) (dVar 14))) (pNm 15) (dDrop (dBM mAppend (dVar 15) (dCons (dN opTup dNil) dNil)))))))))))) (dRet (dC (.bl true))))))))
def phi_law_v15 : Phi := dDef 18 den_law_v15
end KR
set_option Elab.async false
set_option linter.all false
set_option maxRecDepth 100000
set_option maxHeartbeats 4000000
namespace KR
open PySem PySem.Spec PyProof.Rows L2
/-! ### a dict by pairs of numbers, behind a handle -/
abbrev Kvs := List ((Int × Int) × Int)
def dv (o : Om) : D → Option (Nat × Kvs)
  | .obj n => match o[n]? with
    | some (.dt kvs) => some (n, kvs)
    | _ => none
  | _ => none
def pairD : D → Option (Int × Int)
  | .tup [.int i, .int j] => some (i, j)
  | _ => none
def getI (kvs : Kvs) (k : Int × Int) : Option Int := (kvs.find? fun kv => decide (kv.1 = k)).map (·.2)
def putI (kvs : Kvs) (k : Int × Int) (v : Int) : Kvs := if (kvs.any fun kv => decide (kv.1 = k)) = true then kvs.map (fun kv => if kv.1 = k then (kv.1, v) else kv) else kvs ++ [(k, v)]
def opDIn (o : Om) (y x : D) : Option D := match pairD y, dv o x with
  | some k, some (_, kvs) => some (.bl (getI kvs k).isSome)
  | _, _ => none
def opDNotIn (o : Om) (y x : D) : Option D := match pairD y, dv o x with
  | some k, some (_, kvs) => some (.bl (!(getI kvs k).isSome))
  | _, _ => none
def opDGet (o : Om) (x y : D) : Option D := match pairD y, dv o x with
  | some k, some (_, kvs) => (getI kvs k).map D.int
  | _, _ => none
def dDNew : DE := fun _ o => .ok (.obj o.length) (o ++ [.dt []])
def dDPut (g h f : DE) : DS := fun ρ o => (f ρ o).bindS fun v o1 => (g ρ o1).bindS fun x o2 => (h ρ o2).bindS fun y o3 => match pairD y, dv o3 x, v with
  | some k, some (n, kvs), .int i => if kvs.length < 1000 then .nx ρ (o3.set n (.dt (putI kvs k i))) else .bad
  | _, _, _ => .bad
abbrev kO (k : Int × Int) : List L2.Key := [.inl k.1, .inl k.2]
theorem kO_inj {a b : Int × Int} : kO a = kO b ↔ a = b := by
  constructor
  · intro h
    obtain ⟨a1, a2⟩ := a
    obtain ⟨b1, b2⟩ := b
    injection h with h1 h2
    injection h2 with h2 _
    injection h1 with h1
    injection h2 with h2
    have h1 : a1 = b1 := h1
    have h2 : a2 = b2 := h2
    rw [h1, h2]
  · rintro rfl; rfl
theorem kO_dec (a b : Int × Int) : (decide (kO a = kO b)) = decide (a = b) := by
  by_cases h : a = b
  · rw [decide_eq_true h, decide_eq_true (kO_inj.mpr h)]
  · rw [decide_eq_false h, decide_eq_false fun z => h (kO_inj.mp z)]
theorem getI_val (k : Int × Int) : ∀ kvs : Kvs, L2.valV (dtV kvs) (kO k) = (getI kvs k).map L2.V.int
  | [] => rfl
  | p :: r => by
    have ih := getI_val k r
    by_cases h : p.1 = k
    · have e1 : L2.valV (dtV (p :: r)) (kO k) = some (.int p.2) := valV_pos (p := (kO p.1, L2.V.int p.2)) (kO_inj.mpr h)
      rw [e1]
      unfold getI
      rw [List.find?_cons, decide_eq_true h]; rfl
    · have e1 : L2.valV (dtV (p :: r)) (kO k) = L2.valV (dtV r) (kO k) := valV_neg (p := (kO p.1, L2.V.int p.2)) fun z => h (kO_inj.mp z)
      rw [e1, ih]
      unfold getI
      rw [List.find?_cons, decide_eq_false h]
theorem putI_put (kvs : Kvs) (k : Int × Int) (v : Int) : dtV (putI kvs k v) = L2.putK (dtV kvs) (kO k) (.int v) := by
  unfold putI L2.putK
  have e : ((dtV kvs).any fun kv => decide (kv.1 = kO k)) = kvs.any fun kv => decide (kv.1 = k) := by
    unfold dtV
    rw [List.any_map]
    congr 1
    funext p
    exact kO_dec p.1 k
  rw [e]
  by_cases h : (kvs.any fun kv => decide (kv.1 = k)) = true
  · rw [if_pos h, if_pos h]
    unfold dtV
    rw [List.map_map, List.map_map]
    refine List.map_congr_left fun p _ => ?_
    show (fun q : (Int × Int) × Int => (kO q.1, L2.V.int q.2)) (if p.1 = k then (p.1, v) else p) = if kO p.1 = kO k then (kO p.1, L2.V.int v) else (kO p.1, L2.V.int p.2)
    by_cases h2 : p.1 = k
    · rw [if_pos h2, if_pos (kO_inj.mpr h2)]
    · rw [if_neg h2, if_neg fun z => h2 (kO_inj.mp z)]
  · rw [if_neg h, if_neg h]
    unfold dtV
    rw [List.map_append]; rfl
section
variable {K : PySem.W.Frag} {C : Addr} {F H : Hp} {B : List Addr} {o : Om}
theorem Is.dv (s : Store K C F B H o) {v : L2.V} {d : D} {m : Nat} {kvs : Kvs} (h : Is K F B v d) (q : KR.dv o d = some (m, kvs)) : ∃ a, d = .obj m ∧ B[m]? = some a ∧ v = .ref a ∧ F a = none ∧ H a = some (.dT (dtV kvs)) := by
  cases h with
  | @obj a n h1 =>
    cases hy : o[n]? with
    | none => simp [KR.dv, hy] at q
    | some mo =>
      cases mo with
      | dt ys =>
        simp [KR.dv, hy] at q
        obtain ⟨rfl, rfl⟩ := q
        obtain ⟨h0, h2⟩ := s.at_ n a _ h1 hy
        exact ⟨a, rfl, h1, rfl, h0, h2⟩
      | _ => simp [KR.dv, hy] at q
  | _ => cases q
theorem Is.pair {u : L2.V} {y : D} {k : Int × Int} (h : Is K F B u y) (q : pairD y = some k) : ∃ b, u = .ref b ∧ F b = some (.tup ((kO k).map kV)) := by
  obtain ⟨i, j⟩ := k
  cases h with
  | @tup a vs xs h1 h2 =>
    unfold pairD at q
    split at q
    · rename_i i' j' e
      cases e
      cases q
      cases h2 with
      | cons a1 a2 =>
        cases a1
        cases a2 with
        | cons b1 b2 =>
          cases b1
          cases b2
          exact ⟨a, rfl, h1⟩
    · cases q
  | _ => cases q
theorem Store.putD (s : Store K C F B H o) {n : Nat} {p : Addr} {kvs : Kvs} (hn : B[n]? = some p) (hF : F p = none) : Store K C F B (upd H p (.dT (dtV kvs))) (o.set n (.dt kvs)) := by
  refine ⟨by rw [List.length_set]; exact s.len, s.nd, fun a ha => ?_, fun m a mo h1 h2 => ?_⟩
  · by_cases e : a = p
    · subst e; rw [upd_same]; exact fun z => nomatch z
    · rw [upd_ne e]; exact s.there a ha
  · by_cases e : a = p
    · subst e
      have em : m = n := nodup_at s.nd h1 hn
      subst em
      rcases getset h2 with ⟨_, _, q⟩ | ⟨q, _⟩
      · subst q; exact ⟨hF, upd_same⟩
      · exact (q rfl).elim
    · have ne : n ≠ m := fun q => e (by subst q; rw [hn] at h1; exact (Option.some.inj h1).symm)
      rw [List.getElem?_set_ne ne] at h2
      have z := s.at_ m a mo h1 h2
      cases mo with
      | ml xs => obtain ⟨z1, vs, z2, z3⟩ := z; exact ⟨z1, vs, by rw [upd_ne e]; exact z2, z3⟩
      | ins fs => obtain ⟨z1, dx, fvs, z2, z3, z4⟩ := z; exact ⟨z1, dx, fvs, by rw [upd_ne e]; exact z2, z3, z4⟩
      | gone => trivial
      | tb x => obtain ⟨z1, z2, ps, z3, z4, z5⟩ := z; exact ⟨z1, z2, ps, by rw [upd_ne e]; exact z3, z4, z5⟩
      | dt x => obtain ⟨z1, z2⟩ := z; exact ⟨z1, by rw [upd_ne e]; exact z2⟩
      | dn x => obtain ⟨z1, z2⟩ := z; exact ⟨z1, by rw [upd_ne e]; exact z2⟩
end
section
variable {X : Cx} {C : Addr} {E : XK} {a b : Expr} {f g h : DE} {pos : Pos}
theorem eDNew : EX X C E (.Dict [] [] pos) dDNew := PE.imp pe_dnewT fun σ H Q ⟨F, B, ρ, o, e, s, n, c⟩ => fun p hp => by
  have g := Grow.hid (o := .dT []) e hp
  have sp : Step F H B F _ (B ++ [p]) := Step.push g hp
  have ss : Store X.K C F (B ++ [p]) _ (o ++ [.dt []]) := s.push g hp (by rw [upd_same]; exact fun z => nomatch z) ⟨sub_none e hp, upd_same⟩
  exact c F _ (B ++ [p]) _ sp ss (.obj (by rw [← s.len]; exact getlast _ _))
theorem dget_of {o : Om} {F H : Hp} {B : List Addr} (s : Store X.K C F B H o) (e : Sub F H) {x y : D} {v u : L2.V} {k : Int × Int} {m : Nat} {kvs : Kvs} (i1 : Is X.K F B v x) (i2 : Is X.K F B u y) (q1 : pairD y = some k) (q2 : dv o x = some (m, kvs)) : ∃ a, v = .ref a ∧ DGet H a u ((getI kvs k).map L2.V.int) := by
  obtain ⟨ad, _, hB, rfl, hF, hH⟩ := i1.dv s q2
  obtain ⟨bd, rfl, hb⟩ := i2.pair q1
  exact ⟨ad, rfl, by rw [← getI_val]; exact DGet.t hH (e _ _ hb)⟩
theorem eDGet (hu : X.A.units + 1 < cLine) (ha : EX X C E a f) (hb : EX X C E b g) (hs : NoSl b := by intro _ _; rfl) : EX X C E (.Subscript a b pos) (d2 opDGet f g) :=
  PE.imp (pe_dget hu ha hb hs) fun σ H Q ⟨F, B, ρ, o, e, s, n, c⟩ => ⟨F, B, ρ, o, e, s, n, Con.then c fun x o1 F1 H1 B1 v st1 s1 i1 c1 => ⟨F1, B1, ρ, o1, st1.fh, s1, n.step st1, Con.then c1 fun y o2 F2 H2 B2 u st2 s2 i2 c2 => by
    obtain ⟨z, hz, k⟩ := con_of c2 s2
    unfold opDGet at hz
    split at hz
    · rename_i kk m kvs q1 q2
      obtain ⟨ad, e1, e2⟩ := dget_of s2 st2.fh (st2.is i1) i2 q1 q2
      cases hg : getI kvs kk with
      | none => rw [hg] at hz; cases hz
      | some i =>
        rw [hg] at hz e2
        cases hz
        exact ⟨ad, .int i, e1, e2, k F2 H2 _ (Grow.refl st2.fh) (.int i)⟩
    · cases hz⟩⟩
theorem tDIn' (hu : X.A.units + 1 < cLine) (ha : EX X C E a f) (hb : EX X C E b g) (hm : behindInMarks .In b = false := by first | exact nobehind _ (by decide) (by decide) | rfl) : ET X C E (.Compare a [.In] [b] pos) (dT (d2 opDIn f g)) :=
  PT.imp (pt_cmp (pc_din hu ha hb) hm) fun σ H Q h0 => by
    obtain ⟨F, B, ρ, o, e, s, n, c⟩ := dT_to h0
    exact ⟨F, B, ρ, o, e, s, n, Con.then c fun x o1 F1 H1 B1 v st1 s1 i1 c1 => ⟨F1, B1, ρ, o1, st1.fh, s1, n.step st1, Con.then c1 fun y o2 F2 H2 B2 u st2 s2 i2 c2 => by
      obtain ⟨z, hz, k⟩ := con_of c2 s2
      unfold opDIn at hz
      split at hz
      · rename_i kk m kvs q1 q2
        obtain ⟨ad, e1, e2⟩ := dget_of s2 st2.fh i2 (st2.is i1) q1 q2
        cases hz
        refine ⟨ad, _, e1, e2, ?_⟩
        have k2 := k F2 H2 _ (Grow.refl st2.fh) (.bl _)
        rw [Option.isSome_map]
        exact k2
      · cases hz⟩⟩
theorem tDNotIn' (hu : X.A.units + 1 < cLine) (ha : EX X C E a f) (hb : EX X C E b g) (hm : behindInMarks .NotIn b = false := by first | exact nobehind _ (by decide) (by decide) | rfl) : ET X C E (.Compare a [.NotIn] [b] pos) (dT (d2 opDNotIn f g)) :=
  PT.imp (pt_cmp (pc_dnotin hu ha hb) hm) fun σ H Q h0 => by
    obtain ⟨F, B, ρ, o, e, s, n, c⟩ := dT_to h0
    exact ⟨F, B, ρ, o, e, s, n, Con.then c fun x o1 F1 H1 B1 v st1 s1 i1 c1 => ⟨F1, B1, ρ, o1, st1.fh, s1, n.step st1, Con.then c1 fun y o2 F2 H2 B2 u st2 s2 i2 c2 => by
      obtain ⟨z, hz, k⟩ := con_of c2 s2
      unfold opDNotIn at hz
      split at hz
      · rename_i kk m kvs q1 q2
        obtain ⟨ad, e1, e2⟩ := dget_of s2 st2.fh i2 (st2.is i1) q1 q2
        cases hz
        refine ⟨ad, _, e1, e2, ?_⟩
        have k2 := k F2 H2 _ (Grow.refl st2.fh) (.bl _)
        rw [Option.isSome_map]
        exact k2
      · cases hz⟩⟩
theorem sDPut' {o0 i0 : Expr} {tp : Pos} (hu : X.A.units + 1 < cLine) (ho : EX X C E o0 g) (hi : EX X C E i0 h) (he : EX X C E a f) (hs : swapsWith a (some (.Subscript o0 i0 tp)) pos.line X.env = pure false := by rfl) : ES X C E (.Assign [.Subscript o0 i0 tp] a pos) (dDPut g h f) := by
  refine PS.imp (ps_dput hu ho hi he hs) fun Z σ H ⟨F, B, ρ, o, e, s, n, c⟩ => ⟨F, B, ρ, o, e, s, n, ConS.then c fun x o1 F1 H1 B1 v st1 s1 i1 c1 => ⟨F1, B1, ρ, o1, st1.fh, s1, n.step st1, ConS.then c1 fun y o2 F2 H2 B2 u st2 s2 i2 c2 => ⟨F2, B2, ρ, o2, st2.fh, s2, (n.step st1).step st2, ConS.then c2 fun z o3 F3 H3 B3 w st3 s3 i3 c3 => ?_⟩⟩⟩
  split at c3
  · rename_i kk m kvs i q1 q2
    by_cases hl : kvs.length < 1000
    · rw [if_pos hl] at c3
      obtain ⟨ad, _, hB, rfl, hF, hH⟩ := (st3.is i2).dv s3 q2
      obtain ⟨bd, rfl, hb⟩ := i3.pair q1
      have iv := (st2.trans st3).is i1
      cases iv
      have hl2 : (dtV kvs).length < sizeLine := by unfold dtV; rw [List.length_map]; exact Nat.lt_of_lt_of_le hl (by decide)
      refine ⟨ad, _, rfl, DPut.t hH (st3.fh _ _ hb) hl2, ?_⟩
      rw [← putI_put]
      have st := Step.put (x := .dT (dtV (putI kvs kk i))) (Step.refl st3.fh) hB hF
      exact c3 F3 _ B3 _ (.of st) (s3.putD hB hF) ((((n.step st1).step st2).step st3).step st) fun a q => .inl q
    · rw [if_neg hl] at c3; exact c3.elim
  · exact c3.elim
end
theorem hu1 {n : Nat} (h : n + 64 < cLine) : n + 1 < cLine := by omega
@[simp] theorem ev_DNew {ρ : Rho} {o : Om} : dDNew ρ o = .ok (.obj o.length) (o ++ [.dt []]) := rfl
end KR
set_option Elab.async false
set_option linter.all false
set_option maxRecDepth 100000
set_option maxHeartbeats 2000000
namespace KR
open PySem L2
/-- k39 law, 0:_law_script 1:_law_d 2:_law_case 3:_law_persons 4:_law_keys 5:_law_doors 6:_law_book 7:_law_begins 8:_law_moment 9:_law_rows 10:_law_holds 11:_law_door 12:_law_kinds 13:_law_person 14:_law_word 15:_law_mine 16:_law_lacks 17:_law_due 18:_law_found 19:_law_name 20:_law_sure 21:_law_every 22:_law_kind 23:_law_one 24:_law_k -/
def den_law_v16 : DS := (dSeq (dAsg (dCall 1 phi_l_dice (dCons (dVar 0) dNil)) (pNm 1)) (dSeq (dAsg (dCall 2 phi_l_story (dCons (dVar 1) (dCons (dC (.int 36)) dNil))) (pNm 2)) (dSeq (dAsg (dVar 2) (pTp (psLen 3 (psCons (pNm 3) (psCons (pNm 4) (psCons (pNm 5) psNil)))))) (dSeq (dAsg (dN opTup (dCons (dCall 1 phi_l_written (dCons (dVar 2) dNil)) (dCons dDNew dNil))) (pTp (psLen 2 (psCons (pNm 6) (psCons (pNm 7) psNil))))) (dSeq (dFor (iR1 (dC (.int 30))) (pNm 8) (dSeq (dAsg (dCall 3 phi_l_words (dCons (dVar 6) (dCons (dVar 2) (dCons (dVar 8) dNil)))) (pNm 9)) (dSeq (dAsg (dLc (iR1 (dN opLen (dCons (dVar 4) dNil))) (pNm 19) dYes (dMeth "holders" 3 phi_Book_holders (dVar 6) (dCons (dVar 19) (dCons (dVar 8) dNil))) [19]) (pNm 10)) (dSeq (dIfS (dT (d2 opNe (dLc (iSeq' (dVar 10)) (pTp (psLen 2 (psCons (pNm 20) (psCons (pNm 21) psNil)))) (dAnd (dT (d2 opIsNot (dVar 20) (dC .non))) (dT (d2 opNe (dVar 21) (dN opLst (dCons (dVar 20) dNil))))) (dVar 20) [20, 21]) (dN opLst dNil))) (dRet (dC (.bl false))) dSkip) (dFor (iR1 (dN opLen (dCons (dVar 5) dNil))) (pNm 11) (dSeq (dAsg (dMeth "locks" 3 phi_Book_locks (dVar 6) (dCons (dVar 11) (dCons (dVar 8) dNil))) (pNm 12)) (dSeq (dFor (iR1 (dVar 3)) (pNm 13) (dSeq (dAsg (d2 opIx (d2 opIx (dVar 9) (dVar 11)) (dVar 13)) (pNm 14)) (dSeq (dAsg (dLc (iR1 (dN opLen (dCons (dVar 4) dNil))) (pNm 19) (dT (d2 opEq (d2 opIx (d2 opIx (dVar 10) (dVar 19)) (dC (.int 0))) (dVar 13))) (dVar 19) [19]) (pNm 15)) (dSeq (dAsg (dLc (iSeq' (dVar 12)) (pNm 22) (dT (d2 opEq (dLc (iSeq' (dVar 15)) (pNm 19) (dT (d2 opIn (dVar 22) (d2 opIx (d2 opIx (dVar 4) (dVar 19)) (dC (.int 0))))) (dVar 19) [19]) (dN opLst dNil))) (dVar 22) [22]) (pNm 16)) (dSeq (dIfS (dOr (dT (d2 opNe (d2 opEq (dVar 14) (dC (.str "surely"))) (d2 opEq (dVar 16) (dN opLst dNil)))) (dAnd (dT (d2 opEq (dVar 12) (dN opLst (dCons (d1 opNeg (dC (.int 1))) dNil)))) (dT (d2 opNe (dVar 14) (dC (.str "no")))))) (dRet (dC (.bl false))) dSkip) (dIfS (dAnd (dT (d2 opNe (dVar 14) (dC (.str "no")))) (dT (d2 opDNotIn (dN opTup (dCons (dVar 13) (dCons (dVar 11) dNil))) (dVar 7)))) (dDPut (dVar 7) (dN opTup (dCons (dVar 13) (dCons (dVar 11) dNil))) (dVar 8)) dSkip)))))) (dSeq (dAsg (dLc (iSeq' (dN opTup (dCons (dC (.str "surely")) (dCons (dC (.str "maybe")) dNil)))) (pNm 23) dYes (dLc (iR1 (dVar 3)) (pNm 24) (dT (d2 opEq (d2 opIx (d2 opIx (dVar 9) (dVar 11)) (dVar 24)) (dVar 23))) (dVar 24) [24]) [23]) (pNm 17)) (dIfS (dT (d2 opNe (dCall 3 phi_openers (dCons (dVar 6) (dCons (dVar 11) (dCons (dVar 8) dNil)))) (dN opTuple (dCons (dVar 17) dNil)))) (dRet (dC (.bl false))) dSkip))))))))) (dSeq (dAsg (dN opTup (dCons (dCall 2 phi_l_next (dCons (dVar 1) (dCons (dVar 3) dNil))) (dCons (dCall 2 phi_l_next (dCons (dVar 1) (dCons (dN opLen (dCons (dVar 5) dNil)) dNil))) dNil))) (pTp (psLen 2 (psCons (pNm 13) (psCons (pNm 11) psNil))))) (dSeq (dAsg (dCall 3 phi_first (dCons (dVar 6) (dCons (dVar 13) (dCons (dVar 11) dNil)))) (pNm 18)) (dSeq (dIfS (dT (d2 opDIn (dN opTup (dCons (dVar 13) (dCons (dVar 11) dNil))) (dVar 7))) (dRet (d2 opEq (dVar 18) (d2 opDGet (dVar 7) (dN opTup (dCons (dVar 13) (dCons (dVar 11) dNil)))))) dSkip) (dRet (dOrV (d2 opIs (dVar 18) (dC .non)) (d2 opGe (dVar 18) (dC (.int 30)))))))))))))
def phi_law_v16 : Phi := dDef 25 den_law_v16
end KR
set_option Elab.async false
set_option linter.all false
set_option maxRecDepth 100000
set_option maxHeartbeats 0
namespace KR
open PySem PySem.Spec PyProof.Rows L2
def top (i : Nat) : Stmt := PySem.Challenge.pw_keyroll_k39_whole_holders_and_openers.main.body.getD i (.Pass ⟨0, 0, 0, 0⟩)
structure DefOk (K : PySem.W.Frag) (mg : Str → Option Value) (x : Str) (st : Stmt) : Prop where
  ex : ∃ f fd, FunD K x x (defArgs st) (defBody st) (defScope st) [] [] f fd ∧ mg x = some (.ref f)
structure MethDef (K : PySem.W.Frag) (C : Addr) (m q : Str) (st : Stmt) : Prop where
  ex : ∃ f fd, FunD K m q (defArgs st) (defBody st) (defScope st) [] [] f fd ∧ Meth K C m f
structure IniDef (K : PySem.W.Frag) (mg : Str → Option Value) (C : Addr) (x q : Str) (st : Stmt) : Prop where
  ex : ∃ f fd, FunD K "__init__" q (defArgs st) (defBody st) (defScope st) [] [] f fd ∧ mg x = some (.ref C) ∧ Mk K C f
abbrev s_l_dice : Stmt := top 35
abbrev s_l_next : Stmt := top 36
abbrev s_Book_init : Stmt := inClass (top 22) 0
abbrev s_Book_cut : Stmt := inClass (top 22) 1
abbrev s_l_window : Stmt := top 37
abbrev s_l_told : Stmt := top 39
abbrev s_Book_need_key : Stmt := inClass (top 22) 2
abbrev s_need_place : Stmt := top 24
abbrev s_Book_need_person : Stmt := inClass (top 22) 4
abbrev s_earliest : Stmt := top 3
abbrev s_first_bad : Stmt := top 5
abbrev s_with_row : Stmt := top 25
abbrev s_Book_hand : Stmt := inClass (top 22) 5
abbrev s_Book_need_door : Stmt := inClass (top 22) 3
abbrev s_Book_fit : Stmt := inClass (top 22) 6
abbrev s_l_fits : Stmt := top 38
abbrev s_l_turn : Stmt := top 40
abbrev s_l_story : Stmt := top 41
abbrev s_l_written : Stmt := top 42
abbrev s_need_moment : Stmt := top 23
abbrev s_need_all : Stmt := top 30
abbrev s_latest : Stmt := top 4
abbrev s_stretches : Stmt := top 6
abbrev s_possible : Stmt := top 7
abbrev s_Book_kinds : Stmt := inClass (top 22) 12
abbrev s_Book_who : Stmt := inClass (top 22) 10
abbrev s_copied_from : Stmt := top 27
abbrev s_may_hold : Stmt := top 28
abbrev s_answer : Stmt := top 29
abbrev s_could : Stmt := top 31
abbrev s_l_words : Stmt := top 43
abbrev s_Book_holders : Stmt := inClass (top 22) 9
abbrev s_Book_locks : Stmt := inClass (top 22) 11
abbrev s_openers : Stmt := top 32
abbrev s_first : Stmt := top 33
abbrev s_law : Stmt := top 44
abbrev s_BadTimes_init : Stmt := inClass (top 14) 0
structure Txt (K : PySem.W.Frag) (mg : Str → Option Value) (C : Addr) : Prop where
  cl : Cls K C
  b_ValueError : mg "ValueError" = none
  b_int : mg "int" = none
  b_isinstance : mg "isinstance" = none
  b_len : mg "len" = none
  b_list : mg "list" = none
  b_max : mg "max" = none
  b_min : mg "min" = none
  b_range : mg "range" = none
  b_reversed : mg "reversed" = none
  b_set : mg "set" = none
  b_sorted : mg "sorted" = none
  b_tuple : mg "tuple" = none
  b_zip : mg "zip" = none
  x_BadPlace : PySem.W.excIn K (He.ga K "BadPlace") He.veBase "ValueError.__new__" = true ∧ PySem.W.keepIn K (.ref (He.ga K "BadPlace")) = true ∧ PySem.W.subIn K (.ref (He.ga K "BadPlace")) (.type "BaseException") = some true ∧ PySem.W.typeIn K (.ref (He.ga K "BadPlace")) = some (.type "type")
  o_BadTimes : OexC K (He.ga K "BadTimes")
  j_BadTimes : ∃ fI fd, FunD K "__init__" "BadTimes.__init__" (defArgs s_BadTimes_init) (defBody s_BadTimes_init) (defScope s_BadTimes_init) [] [] fI fd ∧ PySem.W.findIn K (.ref (He.ga K "BadTimes")) "__init__" = some (some (.ref fI)) ∧ PySem.W.typeIn K (.ref fI) = some (.type "function")
  n_doors : NoAttr K C "doors"
  n_many : NoAttr K C "many"
  n_opens : NoAttr K C "opens"
  n_plain : NoAttr K C "plain"
  n_rows : NoAttr K C "rows"
  i_LAST : ∃ t, mg "LAST" = some (.int 999 t)
  i_MOST_DOORS : ∃ t, mg "MOST_DOORS" = some (.int 4 t)
  i_MOST_ENTRIES : ∃ t, mg "MOST_ENTRIES" = some (.int 8 t)
  i_MOST_KEYS : ∃ t, mg "MOST_KEYS" = some (.int 6 t)
  i_MOST_KIND : ∃ t, mg "MOST_KIND" = some (.int 9 t)
  i_MOST_PERSONS : ∃ t, mg "MOST_PERSONS" = some (.int 8 t)
  g_BadBook : mg "BadBook" = some (.ref (He.ga K "BadBook"))
  g_BadKey : mg "BadKey" = some (.ref (He.ga K "BadKey"))
  g_BadPlace : mg "BadPlace" = some (.ref (He.ga K "BadPlace"))
  g_BadTimes : mg "BadTimes" = some (.ref (He.ga K "BadTimes"))
  g_KeyrollError : mg "KeyrollError" = some (.ref (He.ga K "KeyrollError"))
  g_NoMoment : mg "NoMoment" = some (.ref (He.ga K "NoMoment"))
  g_NoOne : mg "NoOne" = some (.ref (He.ga K "NoOne"))
  kei : KeI K (He.ga K "KeyrollError")
  exs : Exs K
  t_l_turn : mg "_law_turn" = some (.ref (He.fAd K ("_law_turn", none)))
  f_l_dice : DefOk K mg "_law_dice" s_l_dice
  f_l_next : DefOk K mg "_law_next" s_l_next
  f_Book_init : IniDef K mg C "Book" "Book.__init__" s_Book_init
  f_Book_cut : MethDef K C "cut" "Book.cut" s_Book_cut
  f_l_window : DefOk K mg "_law_window" s_l_window
  f_l_told : DefOk K mg "_law_told" s_l_told
  f_Book_need_key : MethDef K C "need_key" "Book.need_key" s_Book_need_key
  f_need_place : DefOk K mg "need_place" s_need_place
  f_Book_need_person : MethDef K C "need_person" "Book.need_person" s_Book_need_person
  f_earliest : DefOk K mg "earliest" s_earliest
  f_first_bad : DefOk K mg "first_bad" s_first_bad
  f_with_row : DefOk K mg "with_row" s_with_row
  f_Book_hand : MethDef K C "hand" "Book.hand" s_Book_hand
  f_Book_need_door : MethDef K C "need_door" "Book.need_door" s_Book_need_door
  f_Book_fit : MethDef K C "fit" "Book.fit" s_Book_fit
  f_l_fits : DefOk K mg "_law_fits" s_l_fits
  f_l_turn : DefOk K mg "_law_turn" s_l_turn
  f_l_story : DefOk K mg "_law_story" s_l_story
  f_l_written : DefOk K mg "_law_written" s_l_written
  f_need_moment : DefOk K mg "need_moment" s_need_moment
  f_need_all : DefOk K mg "need_all" s_need_all
  f_latest : DefOk K mg "latest" s_latest
  f_stretches : DefOk K mg "stretches" s_stretches
  f_possible : DefOk K mg "possible" s_possible
  f_Book_kinds : MethDef K C "kinds" "Book.kinds" s_Book_kinds
  f_Book_who : MethDef K C "who" "Book.who" s_Book_who
  f_copied_from : DefOk K mg "copied_from" s_copied_from
  f_may_hold : DefOk K mg "may_hold" s_may_hold
  f_answer : DefOk K mg "answer" s_answer
  f_could : DefOk K mg "could" s_could
  f_l_words : DefOk K mg "_law_words" s_l_words
  f_Book_holders : MethDef K C "holders" "Book.holders" s_Book_holders
  f_Book_locks : MethDef K C "locks" "Book.locks" s_Book_locks
  f_openers : DefOk K mg "openers" s_openers
  f_first : DefOk K mg "first" s_first
  f_law : DefOk K mg "law" s_law
section
variable {P : Program} {w : World} {K : PySem.W.Frag} {mg : Str → Option Value} {base : Heap} {C : Addr}
theorem sc_BadTimes_init : FnScope ["self", "place"] ["self", "place"] (defScope s_BadTimes_init) := ⟨rfl, rfl, rfl, by decide +kernel, rfl, by decide +kernel, by decide +kernel⟩
theorem ini_BadTimes (T : Txt K mg C) : ∃ (fI : Addr) (fd : FuncData), Binds K fd ["self", "place"] [] ∧ FnOk P w K mg base (L2.CX P w) 1 fI fd ["self", "place"] (spI K (He.ga K "BadTimes") "place") ∧ PySem.W.findIn K (.ref (He.ga K "BadTimes")) "__init__" = some (some (.ref fI)) ∧ PySem.W.typeIn K (.ref fI) = some (.type "function") := by
  obtain ⟨fI, fd, F, h1, h2⟩ := T.j_BadTimes
  exact ⟨fI, fd, F.bindsN fun _ _ _ _ _ _ us hl => match us, hl with | [_, _], _ => rfl, ini_ok (k := 0) F sc_BadTimes_init T.o_BadTimes (T.exs.place _ (by simp [sixN])) fun cdv A outer s H E hr => ini_str T.g_KeyrollError T.kei rfl rfl (.inl rfl) (.inl rfl) rfl rfl (by rfl) (by rfl) (by rfl) rfl, h1, h2⟩
theorem sc_l_dice : FnScope ["_law_script", "_law_mixed", "_law_cell"] ["_law_script"] (defScope s_l_dice) := ⟨rfl, rfl, rfl, by decide +kernel, rfl, by decide +kernel, by decide +kernel⟩
theorem ok_l_dice (T : Txt K mg C) (tb : LamX.TabB base mg (He.cT K ("_law_turn", none)).1 (tbAt K "_law_turn")) : Fn P w K mg base C 1 "_law_dice" 1 phi_l_dice := by
  obtain ⟨f, fd, F, g⟩ := T.f_l_dice.ex
  refine ⟨f, fd, ["_law_script"], rfl, g, F.kp, F.bindsN fun _ _ _ _ _ _ us hl => match us, hl with | [_], _ => rfl, ?_⟩
  refine fn_ok F sc_l_dice fun cdv A outer s H E hr px po tk => ?_
  have nd := sc_l_dice.nd
  have hu := hr.units
  exact (sCons (sSet 1 nd eInt) (sCons (sFor po rfl (iSeq (eVar 0)) (gNm 2 nd) (sOne (sSet 1 nd (e2 o_mod (e2 o_add (e2 o_add (e2 o_mul (eVar 1) eInt) (e2 o_mul (e2 o_mod (eVar 2) eInt) eInt)) eInt) eInt)))) (sOne (sRet (eLstH (aCons (eVar 0) (aCons eInt (aCons (e2 o_mul (eVar 1) (eCallTy c_int (by rfl) T.b_int (by decide +kernel) (aCons (eCmp o_gt (eCallB c_len (by rfl) T.b_len PySem.boot_len (aCons (eVar 0) aNil)) eInt) aNil))) (aCons eInt aNil)))))))))
theorem sc_l_next : FnScope ["_law_dice_here", "_law_many", "_law_found", "_law_cell"] ["_law_dice_here", "_law_many"] (defScope s_l_next) := ⟨rfl, rfl, rfl, by decide +kernel, rfl, by decide +kernel, by decide +kernel⟩
theorem ok_l_next (T : Txt K mg C) (tb : LamX.TabB base mg (He.cT K ("_law_turn", none)).1 (tbAt K "_law_turn")) : Fn P w K mg base C 1 "_law_next" 2 phi_l_next := by
  obtain ⟨f, fd, F, g⟩ := T.f_l_next.ex
  refine ⟨f, fd, ["_law_dice_here", "_law_many"], rfl, g, F.kp, F.bindsN fun _ _ _ _ _ _ us hl => match us, hl with | [_, _], _ => rfl, ?_⟩
  refine fn_ok F sc_l_next fun cdv A outer s H E hr px po tk => ?_
  have nd := sc_l_next.nd
  have hu := hr.units
  exact (sCons (sIf (tCmp o_gt (eIxR ix_d (eVar 0) eInt) eInt) (sCons (sSet 2 nd (e2 o_mod (eIxR ix_d (eVar 0) eInt) (eVar 1))) (sCons (sSetI (eVar 0) eInt (e2 o_div (eIxR ix_d (eVar 0) eInt) (eVar 1))) (sOne (sRet (eVar 2))))) sNil) (sCons (sSetI (eVar 0) eInt (e2 o_add (eIxR ix_d (eVar 0) eInt) eInt)) (sCons (sIf (tCmp o_le (eIxR ix_d (eVar 0) eInt) (eCallB c_len (by rfl) T.b_len PySem.boot_len (aCons (eIxR ix_d (eVar 0) eInt) aNil))) (sCons (sSet 3 nd (eIxR ix_d (eIxR ix_d (eVar 0) eInt) (e2 o_sub (eIxR ix_d (eVar 0) eInt) eInt))) (sCons (sSetI (eVar 0) eInt (eIf (tCmp o_ge (eVar 3) (e2 o_pow eInt eInt)) (e2 o_div (eVar 3) (eVar 1)) eInt)) (sOne (sRet (e2 o_mod (eVar 3) (eVar 1)))))) sNil) (sCons (sSetI (eVar 0) eInt (e2 o_mod (e2 o_mul (eIxR ix_d (eVar 0) eInt) eInt) eInt)) (sOne (sRet (e2 o_mod (e2 o_div (eIxR ix_d (eVar 0) eInt) eInt) (eVar 1))))))))
theorem sc_Book_init : FnScope ["self", "persons", "doors", "door"] ["self", "persons", "doors"] (defScope s_Book_init) := ⟨rfl, rfl, rfl, by decide +kernel, rfl, by decide +kernel, by decide +kernel⟩
theorem ok_Book_init (T : Txt K mg C) (tb : LamX.TabB base mg (He.cT K ("_law_turn", none)).1 (tbAt K "_law_turn")) : Ini P w K mg base C 1 "Book" 3 phi_Book_init := by
  obtain ⟨f, fd, F, g, g2⟩ := T.f_Book_init.ex
  refine ⟨f, fd, ["self", "persons", "doors"], rfl, g, g2, F.bindsN fun _ _ _ _ _ _ us hl => match us, hl with | [_, _, _], _ => rfl, ?_⟩
  refine fn_ok F sc_Book_init fun cdv A outer s H E hr px po tk => ?_
  have nd := sc_Book_init.nd
  have hu := hr.units
  exact (sCons (sIf (EW.t (wOr (tNot' (tChainT o_le o_le eInt (eVar 1) (eGlo (by rfl) T.i_MOST_PERSONS))) (wOr1 (tNot' (tChainT o_le o_le eInt (eVar 2) (eGlo (by rfl) T.i_MOST_DOORS)))))) (sOne sDead) sNil) (sCons (sSetF T.cl T.n_many (eVar 0) (eVar 1)) (sCons (sSetF T.cl T.n_doors (eVar 0) (eLcH rfl nd (iRng1 T.b_range (eVar 2)) (blkOk_by (own := [("door", 3)]) (by kernel_rfl)) (by decide) (fun _ _ _ _ _ => (gNm 3 nd)) (fun _ _ _ _ _ => tsNil) (fun _ _ _ _ _ => (eLst aNil)))) (sCons (sSetF T.cl T.n_opens (eVar 0) (eLstH aNil)) (sCons (sSetF T.cl T.n_plain (eVar 0) (eLstH aNil)) (sOne (sSetF T.cl T.n_rows (eVar 0) (eLstH aNil))))))))
theorem sc_Book_cut : FnScope ["self", "opens", "plain", "good", "kind"] ["self", "opens", "plain"] (defScope s_Book_cut) := ⟨rfl, rfl, rfl, by decide +kernel, rfl, by decide +kernel, by decide +kernel⟩
theorem ok_Book_cut (T : Txt K mg C) (tb : LamX.TabB base mg (He.cT K ("_law_turn", none)).1 (tbAt K "_law_turn")) : Mt P w K mg base C 1 "cut" 3 phi_Book_cut := by
  obtain ⟨f, fd, F, g⟩ := T.f_Book_cut.ex
  refine ⟨f, fd, ["self", "opens", "plain"], rfl, g, F.bindsN fun _ _ _ _ _ _ us hl => match us, hl with | [_, _, _], _ => rfl, ?_⟩
  refine fn_ok F sc_Book_cut fun cdv A outer s H E hr px po tk => ?_
  have nd := sc_Book_cut.nd
  have hu := hr.units
  exact (sCons (sSet 3 nd (eCmp (o_eq hu) (eCallTy c_list (by rfl) T.b_list (by decide +kernel) (aCons (eVar 1) aNil)) (eSSet rfl T.b_sorted T.b_set (eVar 1)))) (sCons (sIf (EW.t (wOr (tNot' (tEx (eVar 3))) (wOr1 (tCmp (o_ne hu) (eLc rfl nd (iSeq (eVar 1)) (blkOk_by (own := [("kind", 4)]) (by kernel_rfl)) (by decide) (fun _ _ _ _ _ => (gNm 4 nd)) (fun _ _ _ _ _ => (tsOne (tNot' (tChainT o_le o_le eInt (eVar 4) (eGlo (by rfl) T.i_MOST_KIND))))) (fun _ _ _ _ _ => (eVar 4))) (eLst aNil))))) (sOne sDead) sNil) (sCons (sIf (tCmp (o_eq hu) (eCallB c_len (by rfl) T.b_len PySem.boot_len (aCons (eFld (eVar 0) T.cl T.n_rows) aNil)) (eGlo (by rfl) T.i_MOST_KEYS)) (sOne sDead) sNil) (sCons (sExpr (eAppH (eFld (eVar 0) T.cl T.n_opens) (eCallTy c_tuple (by rfl) T.b_tuple (by decide +kernel) (aCons (eVar 1) aNil)))) (sCons (sExpr (eAppH (eFld (eVar 0) T.cl T.n_plain) (eVar 2))) (sCons (sExpr (eAppH (eFld (eVar 0) T.cl T.n_rows) (eLst aNil))) (sOne (sRet (e2 o_sub (eCallB c_len (by rfl) T.b_len PySem.boot_len (aCons (eFld (eVar 0) T.cl T.n_rows) aNil)) eInt)))))))))
theorem sc_l_window : FnScope ["_law_d", "_law_far", "_law_early", "_law_wide"] ["_law_d", "_law_far"] (defScope s_l_window) := ⟨rfl, rfl, rfl, by decide +kernel, rfl, by decide +kernel, by decide +kernel⟩
theorem ok_l_window (T : Txt K mg C) (tb : LamX.TabB base mg (He.cT K ("_law_turn", none)).1 (tbAt K "_law_turn")) : Fn P w K mg base C 2 "_law_window" 2 phi_l_window := by
  obtain ⟨f, fd, F, g⟩ := T.f_l_window.ex
  have c__law_next := ok_l_next (P := P) (w := w) (base := base) T tb
  refine ⟨f, fd, ["_law_d", "_law_far"], rfl, g, F.kp, F.bindsN fun _ _ _ _ _ _ us hl => match us, hl with | [_, _], _ => rfl, ?_⟩
  refine fn_ok F sc_l_window fun cdv A outer s H E hr px po tk => ?_
  have nd := sc_l_window.nd
  have hu := hr.units
  exact (sCons (sSet 2 nd (eCall c__law_next (hr.mono (by decide)) px (aCons (eVar 0) (aCons (e2 o_add (eVar 1) eInt) aNil)))) (sCons (sSet 3 nd (eIxR ix_d (eLst (aCons eInt (aCons (e2 o_add eInt (eCall c__law_next (hr.mono (by decide)) px (aCons (eVar 0) (aCons eInt aNil)))) (aCons (eCall c__law_next (hr.mono (by decide)) px (aCons (eVar 0) (aCons (e2 o_add (eVar 1) eInt) aNil))) aNil)))) (eCall c__law_next (hr.mono (by decide)) px (aCons (eVar 0) (aCons eInt aNil))))) (sOne (sRet (eTup (aCons (eVar 2) (aCons (eCallB (c_min rfl) (by rfl) T.b_min (by decide +kernel) (aCons (eVar 1) (aCons (e2 o_add (eVar 2) (eVar 3)) aNil))) aNil)))))))
theorem sc_l_told : FnScope ["_law_work", "e", "_law_kinds", "_law_words_here", "_law_word"] ["_law_work"] (defScope s_l_told) := ⟨rfl, rfl, rfl, by decide +kernel, rfl, by decide +kernel, by decide +kernel⟩
theorem ok_l_told (T : Txt K mg C) (k : Nat) : TOLD P w K mg base C k "_law_told" := by
  obtain ⟨f, fd, F, g⟩ := T.f_l_told.ex
  have bn := F.bindsN (ps := ["_law_work"]) fun _ _ _ _ _ _ us hl => match us, hl with | [_], _ => rfl
  obtain ⟨oc, od, dV, kV, doc, pm, an, cdv, ct, osl, rfl, lk, hcd, _, _⟩ := F.ex
  refine ⟨f, "_law_work", _, _, _, dV, kV, doc, pm, cdv, ct, oc, an, od, osl, ["_law_work", "e", "_law_kinds", "_law_words_here", "_law_word"], g, F.kp, lk, hcd, bn, sc_l_told, rfl, .inl rfl, rfl, rfl, ?_⟩
  refine gives_of (e := "e") (i := 1) sc_l_told.nd rfl rfl T.g_KeyrollError rfl T.exs (fun _ => rfl) fun A outer s H xc a oe d pn hr hz fl => ⟨den_told a d xc, ?_, told_eq a d xc⟩
  have nd := sc_l_told.nd
  have hu := hr.units
  exact (sCons (sSet 2 nd (eLst (aCons (eIsX (T.exs.c _ xc.six) hz fl T.b_isinstance (pe_glob (v := .ref (He.ga K "BadBook")) rfl T.g_BadBook rfl (by decide)) (fun _ h => h) (T.exs.own _ xc.six "BadBook" (by simp [sixN])) rfl (.inl rfl) rfl rfl rfl) (aCons (eIsX (T.exs.c _ xc.six) hz fl T.b_isinstance (pe_glob (v := .ref (He.ga K "BadKey")) rfl T.g_BadKey rfl (by decide)) (fun _ h => h) (T.exs.own _ xc.six "BadKey" (by simp [sixN])) rfl (.inl rfl) rfl rfl rfl) (aCons (eIsX (T.exs.c _ xc.six) hz fl T.b_isinstance (pe_glob (v := .ref (He.ga K "NoOne")) rfl T.g_NoOne rfl (by decide)) (fun _ h => h) (T.exs.own _ xc.six "NoOne" (by simp [sixN])) rfl (.inl rfl) rfl rfl rfl) (aCons (eIsX (T.exs.c _ xc.six) hz fl T.b_isinstance (pe_glob (v := .ref (He.ga K "BadPlace")) rfl T.g_BadPlace rfl (by decide)) (fun _ h => h) (T.exs.own _ xc.six "BadPlace" (by simp [sixN])) rfl (.inl rfl) rfl rfl rfl) aNil)))))) (sCons (sSet 2 nd (e2 o_add (eVar 2) (eLst (aCons (eIsX (T.exs.c _ xc.six) hz fl T.b_isinstance (pe_glob (v := .ref (He.ga K "BadTimes")) rfl T.g_BadTimes rfl (by decide)) (fun _ h => h) (T.exs.own _ xc.six "BadTimes" (by simp [sixN])) rfl (.inl rfl) rfl rfl rfl) (aCons (eIsX (T.exs.c _ xc.six) hz fl T.b_isinstance (pe_glob (v := .ref (He.ga K "NoMoment")) rfl T.g_NoMoment rfl (by decide)) (fun _ h => h) (T.exs.own _ xc.six "NoMoment" (by simp [sixN])) rfl (.inl rfl) rfl rfl rfl) aNil))))) (sCons (sSet 3 nd (eLst (aCons eStr (aCons eStr (aCons eStr (aCons eStr (aCons eStr (aCons eStr aNil)))))))) (sCons (sIf (EW.t (wOr (tCmp (o_ne hu) (eCnt (eVar 2) eBl) eInt) (wOr1 (tNot' (tEx (eIsX (T.exs.c _ xc.six) hz fl T.b_isinstance (pe_bltn (v := .ty "ValueError") rfl T.b_ValueError PyProof.Rows.Boot.«ValueError» rfl (by decide) (by decide)) (fun _ h => h) (T.exs.ve _ xc.six) rfl (.inl rfl) rfl rfl rfl)))))) (sOne (sRet (eTup (aCons eStr aNil)))) sNil) (sCons (sSet 4 nd (eIxR ix_d (eVar 3) (eIdx (eVar 2) eBl))) (sCons (sIf (tCmp (o_eq hu) (eVar 4) eStr) (sOne (sRet (eTup (aCons (eVar 4) (aCons (eXf (T.exs.xf xc.six) (T.exs.word _ xc.six) hz fl rfl (.inl rfl) rfl rfl) aNil))))) sNil) (sOne (sRet (eIf (tCmp (o_eq hu) (eVar 4) eStr) (eTup (aCons (eVar 4) (aCons (eXf (T.exs.xf xc.six) (T.exs.place _ xc.six) hz fl rfl (.inl rfl) rfl rfl) aNil))) (eTup (aCons (eVar 4) aNil)))))))))))
theorem sc_Book_need_key : FnScope ["self", "name"] ["self", "name"] (defScope s_Book_need_key) := ⟨rfl, rfl, rfl, by decide +kernel, rfl, by decide +kernel, by decide +kernel⟩
theorem ok_Book_need_key (T : Txt K mg C) (tb : LamX.TabB base mg (He.cT K ("_law_turn", none)).1 (tbAt K "_law_turn")) : Mt P w K mg base C 1 "need_key" 2 phi_Book_need_key := by
  obtain ⟨f, fd, F, g⟩ := T.f_Book_need_key.ex
  refine ⟨f, fd, ["self", "name"], rfl, g, F.bindsN fun _ _ _ _ _ _ us hl => match us, hl with | [_, _], _ => rfl, ?_⟩
  refine fn_ok F sc_Book_need_key fun cdv A outer s H E hr px po tk => ?_
  have nd := sc_Book_need_key.nd
  have hu := hr.units
  exact (sOne (sIf (tNot' (tChainT o_le o_lt eInt (eVar 1) (eCallB c_len (by rfl) T.b_len PySem.boot_len (aCons (eFld (eVar 0) T.cl T.n_rows) aNil)))) (sOne sDead) sNil))
theorem sc_need_place : FnScope ["rows", "place"] ["rows", "place"] (defScope s_need_place) := ⟨rfl, rfl, rfl, by decide +kernel, rfl, by decide +kernel, by decide +kernel⟩
theorem ok_need_place (T : Txt K mg C) (tb : LamX.TabB base mg (He.cT K ("_law_turn", none)).1 (tbAt K "_law_turn")) : Fn P w K mg base C 1 "need_place" 2 phi_need_place_v2 := by
  obtain ⟨f, fd, F, g⟩ := T.f_need_place.ex
  refine ⟨f, fd, ["rows", "place"], rfl, g, F.kp, F.bindsN fun _ _ _ _ _ _ us hl => match us, hl with | [_, _], _ => rfl, ?_⟩
  refine fn_ok F sc_need_place fun cdv A outer s H E hr px po tk => ?_
  have nd := sc_need_place.nd
  have hu := hr.units
  exact (sOne (sIf (EW.t (wOr (tNot' (tChainT o_le o_le eInt (eVar 1) (eCallB c_len (by rfl) T.b_len PySem.boot_len (aCons (eVar 0) aNil)))) (wOr1 (tCmp (o_eq hu) (eCallB c_len (by rfl) T.b_len PySem.boot_len (aCons (eVar 0) aNil)) (eGlo (by rfl) T.i_MOST_ENTRIES))))) (sOne (sRaise (xc := .badPlace) rfl tk T.x_BadPlace.1 T.g_BadPlace T.x_BadPlace.2.1 T.x_BadPlace.2.2.1 T.x_BadPlace.2.2.2 (fun _ => ⟨rfl, trivial⟩))) sNil))
theorem sc_Book_need_person : FnScope ["self", "person"] ["self", "person"] (defScope s_Book_need_person) := ⟨rfl, rfl, rfl, by decide +kernel, rfl, by decide +kernel, by decide +kernel⟩
theorem ok_Book_need_person (T : Txt K mg C) (tb : LamX.TabB base mg (He.cT K ("_law_turn", none)).1 (tbAt K "_law_turn")) : Mt P w K mg base C 1 "need_person" 2 phi_Book_need_person := by
  obtain ⟨f, fd, F, g⟩ := T.f_Book_need_person.ex
  refine ⟨f, fd, ["self", "person"], rfl, g, F.bindsN fun _ _ _ _ _ _ us hl => match us, hl with | [_, _], _ => rfl, ?_⟩
  refine fn_ok F sc_Book_need_person fun cdv A outer s H E hr px po tk => ?_
  have nd := sc_Book_need_person.nd
  have hu := hr.units
  exact (sOne (sIf (tNot' (tChainT o_le o_lt eInt (eVar 1) (eFld (eVar 0) T.cl T.n_many))) (sOne sDead) sNil))
theorem sc_earliest : FnScope ["rows", "found", "here", "what", "early", "late"] ["rows"] (defScope s_earliest) := ⟨rfl, rfl, rfl, by decide +kernel, rfl, by decide +kernel, by decide +kernel⟩
theorem ok_earliest (T : Txt K mg C) (tb : LamX.TabB base mg (He.cT K ("_law_turn", none)).1 (tbAt K "_law_turn")) : Fn P w K mg base C 1 "earliest" 1 phi_earliest := by
  obtain ⟨f, fd, F, g⟩ := T.f_earliest.ex
  refine ⟨f, fd, ["rows"], rfl, g, F.kp, F.bindsN fun _ _ _ _ _ _ us hl => match us, hl with | [_], _ => rfl, ?_⟩
  refine fn_ok F sc_earliest fun cdv A outer s H E hr px po tk => ?_
  have nd := sc_earliest.nd
  have hu := hr.units
  exact (sCons (sOwn 1 nd aNil) (sCons (sSet 2 nd eInt) (sCons (sFor po rfl (iSeq (eVar 0)) (gTup rfl (gCons' (gNm 3 nd) (gCons' (gNm 4 nd) (gCons' (gNm 5 nd) gNil)))) (sCons (sSet 2 nd (eCallB (c_max rfl) (by rfl) T.b_max (by decide +kernel) (aCons (eVar 2) (aCons (eVar 4) aNil)))) (sOne (sApp 1 (eVar 2))))) (sFz 1 (sOne (sRet (eVar 1)))))))
theorem sc_first_bad : FnScope ["rows", "soon", "place"] ["rows"] (defScope s_first_bad) := ⟨rfl, rfl, rfl, by decide +kernel, rfl, by decide +kernel, by decide +kernel⟩
theorem ok_first_bad (T : Txt K mg C) (tb : LamX.TabB base mg (He.cT K ("_law_turn", none)).1 (tbAt K "_law_turn")) : Fn P w K mg base C 2 "first_bad" 1 phi_first_bad := by
  obtain ⟨f, fd, F, g⟩ := T.f_first_bad.ex
  have c_earliest := ok_earliest (P := P) (w := w) (base := base) T tb
  refine ⟨f, fd, ["rows"], rfl, g, F.kp, F.bindsN fun _ _ _ _ _ _ us hl => match us, hl with | [_], _ => rfl, ?_⟩
  refine fn_ok F sc_first_bad fun cdv A outer s H E hr px po tk => ?_
  have nd := sc_first_bad.nd
  have hu := hr.units
  exact (sCons (sSet 1 nd (eCall c_earliest (hr.mono (by decide)) px (aCons (eVar 0) aNil))) (sCons (sFor po rfl (iRng1 T.b_range (eCallB c_len (by rfl) T.b_len PySem.boot_len (aCons (eVar 0) aNil))) (gNm 2 nd) (sOne (sIf (tCmp o_gt (eIxR ix_d (eVar 1) (eVar 2)) (eIxR ix_d (eIxR ix_d (eVar 0) (eVar 2)) eInt)) (sOne (sRet (eVar 2))) sNil))) (sOne (sRet eNon))))
theorem sc_with_row : FnScope ["rows", "place", "row", "found", "bad"] ["rows", "place", "row"] (defScope s_with_row) := ⟨rfl, rfl, rfl, by decide +kernel, rfl, by decide +kernel, by decide +kernel⟩
theorem ok_with_row (T : Txt K mg C) (tb : LamX.TabB base mg (He.cT K ("_law_turn", none)).1 (tbAt K "_law_turn")) : Fn P w K mg base C 3 "with_row" 3 phi_with_row_v2 := by
  obtain ⟨f, fd, F, g⟩ := T.f_with_row.ex
  have c_first_bad := ok_first_bad (P := P) (w := w) (base := base) T tb
  obtain ⟨fI_BadTimes, fdI_BadTimes, bI_BadTimes, okI_BadTimes, iI_BadTimes, tI_BadTimes⟩ := ini_BadTimes (P := P) (w := w) (base := base) T
  refine ⟨f, fd, ["rows", "place", "row"], rfl, g, F.kp, F.bindsN fun _ _ _ _ _ _ us hl => match us, hl with | [_, _, _], _ => rfl, ?_⟩
  refine fn_ok F sc_with_row fun cdv A outer s H E hr px po tk => ?_
  have nd := sc_with_row.nd
  have hu := hr.units
  exact (sCons (sIf (tNot' (tChain3T o_le o_le o_le eInt (eIxR ix_d (eVar 2) eInt) (eIxR ix_d (eVar 2) eInt) (eGlo (by rfl) T.i_LAST))) (sOne (eRaiseI (k := 1) rfl tk T.o_BadTimes iI_BadTimes tI_BadTimes okI_BadTimes (hr.mono (by decide)) bI_BadTimes (passes_call tk fun _ _ _ _ z => z.elim) T.g_BadTimes (eVar 1) mk_place)) sNil) (sCons (sSet 3 nd (e2 o_add (e2 o_add (eSl sl_d (eVar 0) oNo (oSo (eVar 1))) (eLst (aCons (eVar 2) aNil))) (eSl sl_d (eVar 0) (oSo (eVar 1)) oNo))) (sCons (sSet 4 nd (eCall c_first_bad (hr.mono (by decide)) px (aCons (eVar 3) aNil))) (sCons (sIf (tCmp o_isNot (eVar 4) eNon) (sOne (eRaiseI (k := 1) rfl tk T.o_BadTimes iI_BadTimes tI_BadTimes okI_BadTimes (hr.mono (by decide)) bI_BadTimes (passes_call tk fun _ _ _ _ z => z.elim) T.g_BadTimes (eVar 4) mk_place)) sNil) (sOne (sRet (eVar 3)))))))
theorem sc_Book_hand : FnScope ["self", "name", "place", "person", "early", "late"] ["self", "name", "place", "person", "early", "late"] (defScope s_Book_hand) := ⟨rfl, rfl, rfl, by decide +kernel, rfl, by decide +kernel, by decide +kernel⟩
theorem ok_Book_hand (T : Txt K mg C) (tb : LamX.TabB base mg (He.cT K ("_law_turn", none)).1 (tbAt K "_law_turn")) : Mt P w K mg base C 4 "hand" 6 phi_Book_hand_v2 := by
  obtain ⟨f, fd, F, g⟩ := T.f_Book_hand.ex
  have c_need_key := ok_Book_need_key (P := P) (w := w) (base := base) T tb
  have c_need_place := ok_need_place (P := P) (w := w) (base := base) T tb
  have c_need_person := ok_Book_need_person (P := P) (w := w) (base := base) T tb
  have c_with_row := ok_with_row (P := P) (w := w) (base := base) T tb
  refine ⟨f, fd, ["self", "name", "place", "person", "early", "late"], rfl, g, F.bindsN fun _ _ _ _ _ _ us hl => match us, hl with | [_, _, _, _, _, _], _ => rfl, ?_⟩
  refine fn_ok F sc_Book_hand fun cdv A outer s H E hr px po tk => ?_
  have nd := sc_Book_hand.nd
  have hu := hr.units
  exact (sCons (sExpr (eMeth c_need_key T.cl (hr.mono (by decide)) px (eVar 0) (aCons (eVar 1) aNil))) (sCons (sExpr (eCall c_need_place (hr.mono (by decide)) px (aCons (eIxR ix_d (eFld (eVar 0) T.cl T.n_rows) (eVar 1)) (aCons (eVar 2) aNil)))) (sCons (sIf (tCmp o_isNot (eVar 3) eNon) (sOne (sExpr (eMeth c_need_person T.cl (hr.mono (by decide)) px (eVar 0) (aCons (eVar 3) aNil)))) sNil) (sOne (sSetI (eFld (eVar 0) T.cl T.n_rows) (eVar 1) (eCall c_with_row (hr.mono (by decide)) px (aCons (eIxR ix_d (eFld (eVar 0) T.cl T.n_rows) (eVar 1)) (aCons (eVar 2) (aCons (eTup (aCons (eVar 3) (aCons (eVar 4) (aCons (eVar 5) aNil)))) aNil)))))))))
theorem sc_Book_need_door : FnScope ["self", "door"] ["self", "door"] (defScope s_Book_need_door) := ⟨rfl, rfl, rfl, by decide +kernel, rfl, by decide +kernel, by decide +kernel⟩
theorem ok_Book_need_door (T : Txt K mg C) (tb : LamX.TabB base mg (He.cT K ("_law_turn", none)).1 (tbAt K "_law_turn")) : Mt P w K mg base C 1 "need_door" 2 phi_Book_need_door := by
  obtain ⟨f, fd, F, g⟩ := T.f_Book_need_door.ex
  refine ⟨f, fd, ["self", "door"], rfl, g, F.bindsN fun _ _ _ _ _ _ us hl => match us, hl with | [_, _], _ => rfl, ?_⟩
  refine fn_ok F sc_Book_need_door fun cdv A outer s H E hr px po tk => ?_
  have nd := sc_Book_need_door.nd
  have hu := hr.units
  exact (sOne (sIf (tNot' (tChainT o_le o_lt eInt (eVar 1) (eCallB c_len (by rfl) T.b_len PySem.boot_len (aCons (eFld (eVar 0) T.cl T.n_doors) aNil)))) (sOne sDead) sNil))
theorem sc_Book_fit : FnScope ["self", "door", "place", "kind", "early", "late"] ["self", "door", "place", "kind", "early", "late"] (defScope s_Book_fit) := ⟨rfl, rfl, rfl, by decide +kernel, rfl, by decide +kernel, by decide +kernel⟩
theorem ok_Book_fit (T : Txt K mg C) (tb : LamX.TabB base mg (He.cT K ("_law_turn", none)).1 (tbAt K "_law_turn")) : Mt P w K mg base C 4 "fit" 6 phi_Book_fit_v2 := by
  obtain ⟨f, fd, F, g⟩ := T.f_Book_fit.ex
  have c_need_door := ok_Book_need_door (P := P) (w := w) (base := base) T tb
  have c_need_place := ok_need_place (P := P) (w := w) (base := base) T tb
  have c_with_row := ok_with_row (P := P) (w := w) (base := base) T tb
  refine ⟨f, fd, ["self", "door", "place", "kind", "early", "late"], rfl, g, F.bindsN fun _ _ _ _ _ _ us hl => match us, hl with | [_, _, _, _, _, _], _ => rfl, ?_⟩
  refine fn_ok F sc_Book_fit fun cdv A outer s H E hr px po tk => ?_
  have nd := sc_Book_fit.nd
  have hu := hr.units
  exact (sCons (sExpr (eMeth c_need_door T.cl (hr.mono (by decide)) px (eVar 0) (aCons (eVar 1) aNil))) (sCons (sExpr (eCall c_need_place (hr.mono (by decide)) px (aCons (eIxR ix_d (eFld (eVar 0) T.cl T.n_doors) (eVar 1)) (aCons (eVar 2) aNil)))) (sCons (sIf (tNot' (tChainT o_le o_le eInt (eVar 3) (eGlo (by rfl) T.i_MOST_KIND))) (sOne sDead) sNil) (sOne (sSetI (eFld (eVar 0) T.cl T.n_doors) (eVar 1) (eCall c_with_row (hr.mono (by decide)) px (aCons (eIxR ix_d (eFld (eVar 0) T.cl T.n_doors) (eVar 1)) (aCons (eVar 2) (aCons (eTup (aCons (eVar 3) (aCons (eVar 4) (aCons (eVar 5) aNil)))) aNil)))))))))
theorem sc_l_fits : FnScope ["_law_rows", "_law_here", "_law_place"] ["_law_rows"] (defScope s_l_fits) := ⟨rfl, rfl, rfl, by decide +kernel, rfl, by decide +kernel, by decide +kernel⟩
theorem ok_l_fits (T : Txt K mg C) (tb : LamX.TabB base mg (He.cT K ("_law_turn", none)).1 (tbAt K "_law_turn")) : Fn P w K mg base C 1 "_law_fits" 1 phi_l_fits := by
  obtain ⟨f, fd, F, g⟩ := T.f_l_fits.ex
  refine ⟨f, fd, ["_law_rows"], rfl, g, F.kp, F.bindsN fun _ _ _ _ _ _ us hl => match us, hl with | [_], _ => rfl, ?_⟩
  refine fn_ok F sc_l_fits fun cdv A outer s H E hr px po tk => ?_
  have nd := sc_l_fits.nd
  have hu := hr.units
  exact (sCons (sSet 1 nd eInt) (sCons (sFor po rfl (iRng1 T.b_range (eCallB c_len (by rfl) T.b_len PySem.boot_len (aCons (eVar 0) aNil))) (gNm 2 nd) (sCons (sSet 1 nd (eCallB (c_max rfl) (by rfl) T.b_max (by decide +kernel) (aCons (eVar 1) (aCons (eIxR ix_d (eIxR ix_d (eVar 0) (eVar 2)) eInt) aNil)))) (sOne (sIf (tCmp o_gt (eVar 1) (eIxR ix_d (eIxR ix_d (eVar 0) (eVar 2)) eInt)) (sOne (sRet (eVar 2))) sNil)))) (sOne (sRet eNon))))
theorem sc_l_turn : FnScope ["_law_d", "_law_book", "_law_case", "_law_persons", "_law_keys", "_law_doors", "_law_way", "_law_opens", "_law_plain", "_law_early", "_law_late", "_law_name", "_law_rows", "_law_place", "_law_who", "_law_row", "_law_door", "_law_kind"] ["_law_d", "_law_book", "_law_case"] (defScope s_l_turn) := ⟨rfl, rfl, rfl, by decide +kernel, rfl, by decide +kernel, by decide +kernel⟩
theorem ok_l_turn (T : Txt K mg C) (tb : LamX.TabB base mg (He.cT K ("_law_turn", none)).1 (tbAt K "_law_turn")) : Fn P w K mg base C 7 "_law_turn" 3 phi_l_turn := by
  obtain ⟨f, fd, F, g⟩ := T.f_l_turn.ex
  have c__law_next := ok_l_next (P := P) (w := w) (base := base) T tb
  have c_cut := ok_Book_cut (P := P) (w := w) (base := base) T tb
  have c__law_window := ok_l_window (P := P) (w := w) (base := base) T tb
  have c__law_told := fun k => ok_l_told (P := P) (w := w) (base := base) T k
  have c_hand := ok_Book_hand (P := P) (w := w) (base := base) T tb
  have c_fit := ok_Book_fit (P := P) (w := w) (base := base) T tb
  have c__law_fits := ok_l_fits (P := P) (w := w) (base := base) T tb
  refine ⟨f, fd, ["_law_d", "_law_book", "_law_case"], rfl, g, F.kp, F.bindsN fun _ _ _ _ _ _ us hl => match us, hl with | [_, _, _], _ => rfl, ?_⟩
  refine fn_okT F sc_l_turn (by have h := g.symm.trans T.t_l_turn; injection h with h; injection h) fun A outer s H E hr px po tk => ?_
  have nd := sc_l_turn.nd
  have hu := hr.units
  exact (sCons (sAsg (eVar 2) (gTup rfl (gCons' (gNm 3 nd) (gCons' (gNm 4 nd) (gCons' (gNm 5 nd) gNil))))) (sCons (sSet 6 nd (eCall c__law_next (hr.mono (by decide)) px (aCons (eVar 0) (aCons eInt aNil)))) (sCons (sIf (EW.t (wAnd (tCmp (o_eq hu) (eVar 6) eInt) (wAnd1 (tCmp o_lt (eCallB c_len (by rfl) T.b_len PySem.boot_len (aCons (eVar 4) aNil)) eInt)))) (sCons (sSet 7 nd (eCallTy c_tuple (by rfl) T.b_tuple (by decide +kernel) (aCons (eLc rfl nd (iRng1 T.b_range eInt) (blkOk_by (own := [("_law_kind", 17)]) (by kernel_rfl)) (by decide) (fun _ _ _ _ _ => (gNm 17 nd)) (fun _ _ _ _ _ => (tsOne (tCmp (o_eq hu) (eCall c__law_next (hr.mono (by decide)) passL (aCons (eVar 0) (aCons eInt aNil))) eInt))) (fun _ _ _ _ _ => (eVar 17))) aNil))) (sCons (sSet 8 nd (eCmp (o_eq hu) (eCall c__law_next (hr.mono (by decide)) px (aCons (eVar 0) (aCons eInt aNil))) eInt)) (sCons (sExpr (eAppH (eVar 4) (eTup (aCons (eVar 7) (aCons (eVar 8) (aCons (eLstH aNil) aNil)))))) (sOne (sExpr (eMeth c_cut T.cl (hr.mono (by decide)) px (eVar 1) (aCons (eVar 7) (aCons (eVar 8) aNil)))))))) sNil) (sCons (sAsg (eCall c__law_window (hr.mono (by decide)) px (aCons (eVar 0) (aCons (eIxR ix_d (eLst (aCons eInt (aCons eInt aNil))) (eCall c__law_next (hr.mono (by decide)) px (aCons (eVar 0) (aCons eInt aNil)))) aNil))) (gTup rfl (gCons' (gNm 9 nd) (gCons' (gNm 10 nd) gNil)))) (sCons (sIf (EW.t (wAnd (tCmp o_lt (eVar 6) eInt) (wAnd1 (tCmp (o_ne hu) (eVar 4) (eLst aNil))))) (sCons (sSet 11 nd (eCall c__law_next (hr.mono (by decide)) px (aCons (eVar 0) (aCons (eCallB c_len (by rfl) T.b_len PySem.boot_len (aCons (eVar 4) aNil)) aNil)))) (sCons (sSet 12 nd (eIxR ix_d (eIxR ix_d (eVar 4) (eVar 11)) eInt)) (sCons (sSet 13 nd (eCall c__law_next (hr.mono (by decide)) px (aCons (eVar 0) (aCons (e2 o_add (eCallB c_len (by rfl) T.b_len PySem.boot_len (aCons (eVar 12) aNil)) eInt) aNil)))) (sCons (sSet 14 nd (eIxR ix_d (e2 o_add (eLst (aCons eNon aNil)) (e2 o_mul (eLRg rfl T.b_list T.b_range (eVar 3)) eInt)) (eCall c__law_next (hr.mono (by decide)) px (aCons (eVar 0) (aCons (e2 o_add eInt (e2 o_mul eInt (eVar 3))) aNil))))) (sCons (sExpr (eT0 (k := 4) (c__law_told 5) tb (hr.mono (by decide)) (lamU_by (by kernel_rfl)) ⟨rfl, rfl⟩ (fun _ _ _ _ _ _ => rfl) (fun _ _ _ _ _ _ _ _ _ _ _ _ hr px => (eMeth c_hand T.cl (hr.mono (by decide)) px (eVar 1) (aCons (eVar 11) (aCons (eVar 13) (aCons (eVar 14) (aCons (eVar 9) (aCons (eVar 10) aNil))))))) rfl)) (sOne (sSet 15 nd (eTup (aCons (eVar 14) (aCons (eVar 9) (aCons (eVar 10) aNil))))))))))) (sCons (sSet 16 nd (eCall c__law_next (hr.mono (by decide)) px (aCons (eVar 0) (aCons (eCallB c_len (by rfl) T.b_len PySem.boot_len (aCons (eVar 5) aNil)) aNil)))) (sCons (sSet 12 nd (eIxR ix_d (eVar 5) (eVar 16))) (sCons (sSet 13 nd (eCall c__law_next (hr.mono (by decide)) px (aCons (eVar 0) (aCons (e2 o_add (eCallB c_len (by rfl) T.b_len PySem.boot_len (aCons (eVar 12) aNil)) eInt) aNil)))) (sCons (sSet 17 nd (eCall c__law_next (hr.mono (by decide)) px (aCons (eVar 0) (aCons (eIxR ix_d (eLst (aCons eInt (aCons eInt aNil))) (eCall c__law_next (hr.mono (by decide)) px (aCons (eVar 0) (aCons eInt aNil)))) aNil)))) (sCons (sExpr (eT1 (k := 4) (ar := "_law_a") (c__law_told 5) tb (hr.mono (by decide)) (lamU_by (by kernel_rfl)) rfl rfl rfl (fun _ _ _ _ _ _ _ _ => ⟨_, rfl, rfl⟩) (fun _ _ _ _ _ _ _ _ _ _ _ _ hr px => (eMeth c_fit T.cl (hr.mono (by decide)) px (eVar 1) (aCons (eVar 16) (aCons (eVar 13) (aCons (eVar 17) (aCons (eVar 9) (aCons (eVar 10) aNil))))))) rfl)) (sOne (sSet 15 nd (eTup (aCons (eVar 17) (aCons (eVar 9) (aCons (eVar 10) aNil)))))))))))) (sOne (sIf (EW.t (wAnd (tCmp o_lt (eCallB c_len (by rfl) T.b_len PySem.boot_len (aCons (eVar 12) aNil)) eInt) (wAnd1 (tCmp o_is (eCall c__law_fits (hr.mono (by decide)) px (aCons (e2 o_add (e2 o_add (eSl sl_d (eVar 12) oNo (oSo (eVar 13))) (eLst (aCons (eVar 15) aNil))) (eSl sl_d (eVar 12) (oSo (eVar 13)) oNo)) aNil)) eNon)))) (sOne (sExpr (eBM m_insert PySem.F.slot_list_insert PySem.F.type_list_insert mt_insert (eVar 12) (aCons (eVar 13) (aCons (eVar 15) aNil))))) sNil)))))))
theorem sc_l_story : FnScope ["_law_d", "_law_most", "_law_persons", "_law_many", "_law_case", "_law_book", "_law_turn_here", "_law_door"] ["_law_d", "_law_most"] (defScope s_l_story) := ⟨rfl, rfl, rfl, by decide +kernel, rfl, by decide +kernel, by decide +kernel⟩
theorem ok_l_story (T : Txt K mg C) (tb : LamX.TabB base mg (He.cT K ("_law_turn", none)).1 (tbAt K "_law_turn")) : Fn P w K mg base C 8 "_law_story" 2 phi_l_story := by
  obtain ⟨f, fd, F, g⟩ := T.f_l_story.ex
  have c__law_next := ok_l_next (P := P) (w := w) (base := base) T tb
  have c_new_Book := ok_Book_init (P := P) (w := w) (base := base) T tb
  have c__law_turn := ok_l_turn (P := P) (w := w) (base := base) T tb
  refine ⟨f, fd, ["_law_d", "_law_most"], rfl, g, F.kp, F.bindsN fun _ _ _ _ _ _ us hl => match us, hl with | [_, _], _ => rfl, ?_⟩
  refine fn_ok F sc_l_story fun cdv A outer s H E hr px po tk => ?_
  have nd := sc_l_story.nd
  have hu := hr.units
  exact (sCons (sPar rfl nd (e2 o_add eInt (eCall c__law_next (hr.mono (by decide)) px (aCons (eVar 0) (aCons eInt aNil)))) (e2 o_add eInt (eCall c__law_next (hr.mono (by decide)) px (aCons (eVar 0) (aCons eInt aNil))))) (sCons (sSet 4 nd (eTup (aCons (eVar 2) (aCons (eLstH aNil) (aCons (eLcH rfl nd (iRng1 T.b_range (eVar 3)) (blkOk_by (own := [("_law_door", 7)]) (by kernel_rfl)) (by decide) (fun _ _ _ _ _ => (gNm 7 nd)) (fun _ _ _ _ _ => tsNil) (fun _ _ _ _ _ => (eLstH aNil))) aNil))))) (sCons (sSet 5 nd (eMake c_new_Book (hr.mono (by decide)) px (aCons (eVar 2) (aCons (eVar 3) aNil)))) (sCons (sFor po rfl (iRng1 T.b_range (e2 o_add eInt (eCall c__law_next (hr.mono (by decide)) px (aCons (eVar 0) (aCons (eVar 1) aNil))))) (gNm 6 nd) (sOne (sExpr (eCall c__law_turn (hr.mono (by decide)) px (aCons (eVar 0) (aCons (eVar 5) (aCons (eVar 4) aNil))))))) (sOne (sRet (eVar 4)))))))
theorem sc_l_written : FnScope ["_law_case", "_law_persons", "_law_keys", "_law_doors", "_law_book", "_law_opens", "_law_plain", "_law_rows", "_law_name", "_law_place", "_law_door", "_law_row"] ["_law_case"] (defScope s_l_written) := ⟨rfl, rfl, rfl, by decide +kernel, rfl, by decide +kernel, by decide +kernel⟩
theorem ok_l_written (T : Txt K mg C) (tb : LamX.TabB base mg (He.cT K ("_law_turn", none)).1 (tbAt K "_law_turn")) : Fn P w K mg base C 5 "_law_written" 1 phi_l_written := by
  obtain ⟨f, fd, F, g⟩ := T.f_l_written.ex
  have c_new_Book := ok_Book_init (P := P) (w := w) (base := base) T tb
  have c_cut := ok_Book_cut (P := P) (w := w) (base := base) T tb
  have c_hand := ok_Book_hand (P := P) (w := w) (base := base) T tb
  have c_fit := ok_Book_fit (P := P) (w := w) (base := base) T tb
  refine ⟨f, fd, ["_law_case"], rfl, g, F.kp, F.bindsN fun _ _ _ _ _ _ us hl => match us, hl with | [_], _ => rfl, ?_⟩
  refine fn_ok F sc_l_written fun cdv A outer s H E hr px po tk => ?_
  have nd := sc_l_written.nd
  have hu := hr.units
  exact (sCons (sAsg (eVar 0) (gTup rfl (gCons' (gNm 1 nd) (gCons' (gNm 2 nd) (gCons' (gNm 3 nd) gNil))))) (sCons (sSet 4 nd (eMake c_new_Book (hr.mono (by decide)) px (aCons (eVar 1) (aCons (eCallB c_len (by rfl) T.b_len PySem.boot_len (aCons (eVar 3) aNil)) aNil)))) (sCons (sFor po rfl (iSeq (eVar 2)) (gTup rfl (gCons' (gNm 5 nd) (gCons' (gNm 6 nd) (gCons' (gNm 7 nd) gNil)))) (sCons (sSet 8 nd (eMeth c_cut T.cl (hr.mono (by decide)) px (eVar 4) (aCons (eVar 5) (aCons (eVar 6) aNil)))) (sOne (sFor po rfl (iRng1 T.b_range (eCallB c_len (by rfl) T.b_len PySem.boot_len (aCons (eVar 7) aNil))) (gNm 9 nd) (sOne (sExpr (eMeth c_hand T.cl (hr.mono (by decide)) px (eVar 4) (aCons (eVar 8) (aCons (eVar 9) (aCons (eIxR ix_d (eIxR ix_d (eVar 7) (eVar 9)) eInt) (aCons (eIxR ix_d (eIxR ix_d (eVar 7) (eVar 9)) eInt) (aCons (eIxR ix_d (eIxR ix_d (eVar 7) (eVar 9)) eInt) aNil)))))))))))) (sCons (sFor po rfl (iRng1 T.b_range (eCallB c_len (by rfl) T.b_len PySem.boot_len (aCons (eVar 3) aNil))) (gNm 10 nd) (sOne (sFor po rfl (iRng1 T.b_range (eCallB c_len (by rfl) T.b_len PySem.boot_len (aCons (eIxR ix_d (eVar 3) (eVar 10)) aNil))) (gNm 9 nd) (sCons (sSet 11 nd (eIxR ix_d (eIxR ix_d (eVar 3) (eVar 10)) (eVar 9))) (sOne (sExpr (eMeth c_fit T.cl (hr.mono (by decide)) px (eVar 4) (aCons (eVar 10) (aCons (eVar 9) (aCons (eIxR ix_d (eVar 11) eInt) (aCons (eIxR ix_d (eVar 11) eInt) (aCons (eIxR ix_d (eVar 11) eInt) aNil)))))))))))) (sOne (sRet (eVar 4)))))))
theorem sc_need_moment : FnScope ["moment"] ["moment"] (defScope s_need_moment) := ⟨rfl, rfl, rfl, by decide +kernel, rfl, by decide +kernel, by decide +kernel⟩
theorem ok_need_moment (T : Txt K mg C) (tb : LamX.TabB base mg (He.cT K ("_law_turn", none)).1 (tbAt K "_law_turn")) : Fn P w K mg base C 1 "need_moment" 1 phi_need_moment := by
  obtain ⟨f, fd, F, g⟩ := T.f_need_moment.ex
  refine ⟨f, fd, ["moment"], rfl, g, F.kp, F.bindsN fun _ _ _ _ _ _ us hl => match us, hl with | [_], _ => rfl, ?_⟩
  refine fn_ok F sc_need_moment fun cdv A outer s H E hr px po tk => ?_
  have nd := sc_need_moment.nd
  have hu := hr.units
  exact (sOne (sIf (tNot' (tChainT o_le o_le eInt (eVar 0) (eGlo (by rfl) T.i_LAST))) (sOne sDead) sNil))
theorem sc_need_all : FnScope ["book", "person", "door", "moment"] ["book", "person", "door", "moment"] (defScope s_need_all) := ⟨rfl, rfl, rfl, by decide +kernel, rfl, by decide +kernel, by decide +kernel⟩
theorem ok_need_all (T : Txt K mg C) (tb : LamX.TabB base mg (He.cT K ("_law_turn", none)).1 (tbAt K "_law_turn")) : Fn P w K mg base C 2 "need_all" 4 phi_need_all := by
  obtain ⟨f, fd, F, g⟩ := T.f_need_all.ex
  have c_need_person := ok_Book_need_person (P := P) (w := w) (base := base) T tb
  have c_need_door := ok_Book_need_door (P := P) (w := w) (base := base) T tb
  have c_need_moment := ok_need_moment (P := P) (w := w) (base := base) T tb
  refine ⟨f, fd, ["book", "person", "door", "moment"], rfl, g, F.kp, F.bindsN fun _ _ _ _ _ _ us hl => match us, hl with | [_, _, _, _], _ => rfl, ?_⟩
  refine fn_ok F sc_need_all fun cdv A outer s H E hr px po tk => ?_
  have nd := sc_need_all.nd
  have hu := hr.units
  exact (sCons (sExpr (eMeth c_need_person T.cl (hr.mono (by decide)) px (eVar 0) (aCons (eVar 1) aNil))) (sCons (sExpr (eMeth c_need_door T.cl (hr.mono (by decide)) px (eVar 0) (aCons (eVar 2) aNil))) (sOne (sExpr (eCall c_need_moment (hr.mono (by decide)) px (aCons (eVar 3) aNil))))))
theorem sc_latest : FnScope ["rows", "found", "here", "what", "early", "late"] ["rows"] (defScope s_latest) := ⟨rfl, rfl, rfl, by decide +kernel, rfl, by decide +kernel, by decide +kernel⟩
theorem ok_latest (T : Txt K mg C) (tb : LamX.TabB base mg (He.cT K ("_law_turn", none)).1 (tbAt K "_law_turn")) : Fn P w K mg base C 1 "latest" 1 phi_latest := by
  obtain ⟨f, fd, F, g⟩ := T.f_latest.ex
  refine ⟨f, fd, ["rows"], rfl, g, F.kp, F.bindsN fun _ _ _ _ _ _ us hl => match us, hl with | [_], _ => rfl, ?_⟩
  refine fn_ok F sc_latest fun cdv A outer s H E hr px po tk => ?_
  have nd := sc_latest.nd
  have hu := hr.units
  exact (sCons (sOwn 1 nd aNil) (sCons (sSet 2 nd (eGlo (by rfl) T.i_LAST)) (sCons (sFor po rfl (iRev T.b_reversed (eVar 0)) (gTup rfl (gCons' (gNm 3 nd) (gCons' (gNm 4 nd) (gCons' (gNm 5 nd) gNil)))) (sCons (sSet 2 nd (eCallB (c_min rfl) (by rfl) T.b_min (by decide +kernel) (aCons (eVar 2) (aCons (eVar 5) aNil)))) (sOne (sApp 1 (eVar 2))))) (sFz 1 (sOne (sRet (eRev (eVar 1))))))))
theorem sc_stretches : FnScope ["rows", "soon", "ends", "kinds", "row"] ["rows"] (defScope s_stretches) := ⟨rfl, rfl, rfl, by decide +kernel, rfl, by decide +kernel, by decide +kernel⟩
theorem ok_stretches (T : Txt K mg C) (tb : LamX.TabB base mg (He.cT K ("_law_turn", none)).1 (tbAt K "_law_turn")) : Fn P w K mg base C 2 "stretches" 1 phi_stretches := by
  obtain ⟨f, fd, F, g⟩ := T.f_stretches.ex
  have c_earliest := ok_earliest (P := P) (w := w) (base := base) T tb
  have c_latest := ok_latest (P := P) (w := w) (base := base) T tb
  refine ⟨f, fd, ["rows"], rfl, g, F.kp, F.bindsN fun _ _ _ _ _ _ us hl => match us, hl with | [_], _ => rfl, ?_⟩
  refine fn_ok F sc_stretches fun cdv A outer s H E hr px po tk => ?_
  have nd := sc_stretches.nd
  have hu := hr.units
  exact (sCons (sSet 1 nd (e2 o_add (eLst (aCons eInt aNil)) (eCall c_earliest (hr.mono (by decide)) px (aCons (eVar 0) aNil)))) (sCons (sSet 2 nd (e2 o_add (eCall c_latest (hr.mono (by decide)) px (aCons (eVar 0) aNil)) (eLst (aCons (e2 o_add (eGlo (by rfl) T.i_LAST) eInt) aNil)))) (sCons (sSet 3 nd (e2 o_add (eLst (aCons eNon aNil)) (eLc rfl nd (iSeq (eVar 0)) (blkOk_by (own := [("row", 4)]) (by kernel_rfl)) (by decide) (fun _ _ _ _ _ => (gNm 4 nd)) (fun _ _ _ _ _ => tsNil) (fun _ _ _ _ _ => (eIxR ix_d (eVar 4) eInt))))) (sOne (sRet (eLZip rfl T.b_list T.b_zip (aCons (eVar 3) (aCons (eVar 1) (aCons (eVar 2) aNil)))))))))
theorem sc_possible : FnScope ["rows", "moment", "some", "place"] ["rows", "moment"] (defScope s_possible) := ⟨rfl, rfl, rfl, by decide +kernel, rfl, by decide +kernel, by decide +kernel⟩
theorem ok_possible (T : Txt K mg C) (tb : LamX.TabB base mg (He.cT K ("_law_turn", none)).1 (tbAt K "_law_turn")) : Fn P w K mg base C 3 "possible" 2 phi_possible := by
  obtain ⟨f, fd, F, g⟩ := T.f_possible.ex
  have c_stretches := ok_stretches (P := P) (w := w) (base := base) T tb
  refine ⟨f, fd, ["rows", "moment"], rfl, g, F.kp, F.bindsN fun _ _ _ _ _ _ us hl => match us, hl with | [_, _], _ => rfl, ?_⟩
  refine fn_ok F sc_possible fun cdv A outer s H E hr px po tk => ?_
  have nd := sc_possible.nd
  have hu := hr.units
  exact (sCons (sSet 2 nd (eCall c_stretches (hr.mono (by decide)) px (aCons (eVar 0) aNil))) (sOne (sRet (eLc rfl nd (iRng1 T.b_range (eCallB c_len (by rfl) T.b_len PySem.boot_len (aCons (eVar 2) aNil))) (blkOk_by (own := [("place", 3)]) (by kernel_rfl)) (by decide) (fun _ _ _ _ _ => (gNm 3 nd)) (fun _ _ _ _ _ => (tsOne (tChainT o_le o_lt (eIxR ix_d (eIxR ix_d (eVar 2) (eVar 3)) eInt) (eVar 1) (eIxR ix_d (eIxR ix_d (eVar 2) (eVar 3)) eInt)))) (fun _ _ _ _ _ => (eVar 3))))))
theorem sc_Book_kinds : FnScope ["self", "door", "moment", "rows", "some", "place"] ["self", "door", "moment"] (defScope s_Book_kinds) := ⟨rfl, rfl, rfl, by decide +kernel, rfl, by decide +kernel, by decide +kernel⟩
theorem ok_Book_kinds (T : Txt K mg C) (tb : LamX.TabB base mg (He.cT K ("_law_turn", none)).1 (tbAt K "_law_turn")) : Mt P w K mg base C 4 "kinds" 3 phi_Book_kinds := by
  obtain ⟨f, fd, F, g⟩ := T.f_Book_kinds.ex
  have c_possible := ok_possible (P := P) (w := w) (base := base) T tb
  refine ⟨f, fd, ["self", "door", "moment"], rfl, g, F.bindsN fun _ _ _ _ _ _ us hl => match us, hl with | [_, _, _], _ => rfl, ?_⟩
  refine fn_ok F sc_Book_kinds fun cdv A outer s H E hr px po tk => ?_
  have nd := sc_Book_kinds.nd
  have hu := hr.units
  exact (sCons (sSet 3 nd (eIxR ix_d (eFld (eVar 0) T.cl T.n_doors) (eVar 1))) (sCons (sSetLc 4 rfl nd (iSeq (eCall c_possible (hr.mono (by decide)) px (aCons (eVar 3) (aCons (eVar 2) aNil)))) (blkOk_by (own := [("place", 5)]) (by kernel_rfl)) (by decide) (fun _ _ _ _ _ => (gNm 5 nd)) (fun _ _ _ _ _ => tsNil) (fun _ _ _ _ _ => (eIf (tCmp o_gt (eVar 5) eInt) (eIxR ix_d (eIxR ix_d (eVar 3) (e2 o_sub (eVar 5) eInt)) eInt) (e1 u_neg eInt))) (sw_true rfl rfl rfl (by decide +kernel))) (sOne (sRet (eSSet rfl T.b_sorted T.b_set (eVar 4))))))
theorem sc_Book_who : FnScope ["self", "name", "moment", "rows", "some", "every", "alone", "place", "person"] ["self", "name", "moment"] (defScope s_Book_who) := ⟨rfl, rfl, rfl, by decide +kernel, rfl, by decide +kernel, by decide +kernel⟩
theorem ok_Book_who (T : Txt K mg C) (tb : LamX.TabB base mg (He.cT K ("_law_turn", none)).1 (tbAt K "_law_turn")) : Mt P w K mg base C 4 "who" 3 phi_Book_who := by
  obtain ⟨f, fd, F, g⟩ := T.f_Book_who.ex
  have c_possible := ok_possible (P := P) (w := w) (base := base) T tb
  refine ⟨f, fd, ["self", "name", "moment"], rfl, g, F.bindsN fun _ _ _ _ _ _ us hl => match us, hl with | [_, _, _], _ => rfl, ?_⟩
  refine fn_ok F sc_Book_who fun cdv A outer s H E hr px po tk => ?_
  have nd := sc_Book_who.nd
  have hu := hr.units
  exact (sCons (sSet 3 nd (eIxR ix_d (eFld (eVar 0) T.cl T.n_rows) (eVar 1))) (sCons (sSet 4 nd (eLc rfl nd (iSeq (eCall c_possible (hr.mono (by decide)) px (aCons (eVar 3) (aCons (eVar 2) aNil)))) (blkOk_by (own := [("place", 7)]) (by kernel_rfl)) (by decide) (fun _ _ _ _ _ => (gNm 7 nd)) (fun _ _ _ _ _ => tsNil) (fun _ _ _ _ _ => (eIf (tCmp o_gt (eVar 7) eInt) (eIxR ix_d (eIxR ix_d (eVar 3) (e2 o_sub (eVar 7) eInt)) eInt) (e1 u_neg eInt))))) (sCons (sSetLc 5 rfl nd (iRng1 T.b_range (eFld (eVar 0) T.cl T.n_many)) (blkOk_by (own := [("person", 8)]) (by kernel_rfl)) (by decide) (fun _ _ _ _ _ => (gNm 8 nd)) (fun _ _ _ _ _ => (tsOne (EW.t (wOr (tCmp o_in (eVar 8) (eVar 4)) (wOr1 (tCmp o_in eNon (eVar 4))))))) (fun _ _ _ _ _ => (eVar 8)) (sw_true rfl rfl rfl (by decide +kernel))) (sCons (sSet 6 nd (eAnd (eCmp (o_eq hu) (eLSet rfl T.b_len T.b_set (eVar 4)) eInt) (eAnd (eCmp o_isNot (eIxR ix_d (eVar 4) eInt) eNon) (eOne (eCmp o_ge (eIxR ix_d (eVar 4) eInt) eInt))))) (sOne (sRet (eTup (aCons (eIf (tEx (eVar 6)) (eIxR ix_d (eVar 4) eInt) eNon) (aCons (eVar 5) aNil)))))))))
theorem sc_copied_from : FnScope ["book", "name", "person", "moment", "some", "place", "who", "begin", "end"] ["book", "name", "person", "moment"] (defScope s_copied_from) := ⟨rfl, rfl, rfl, by decide +kernel, rfl, by decide +kernel, by decide +kernel⟩
theorem ok_copied_from (T : Txt K mg C) (tb : LamX.TabB base mg (He.cT K ("_law_turn", none)).1 (tbAt K "_law_turn")) : Fn P w K mg base C 3 "copied_from" 4 phi_copied_from := by
  obtain ⟨f, fd, F, g⟩ := T.f_copied_from.ex
  have c_stretches := ok_stretches (P := P) (w := w) (base := base) T tb
  refine ⟨f, fd, ["book", "name", "person", "moment"], rfl, g, F.kp, F.bindsN fun _ _ _ _ _ _ us hl => match us, hl with | [_, _, _, _], _ => rfl, ?_⟩
  refine fn_ok F sc_copied_from fun cdv A outer s H E hr px po tk => ?_
  have nd := sc_copied_from.nd
  have hu := hr.units
  exact (sCons (sSet 4 nd (eCall c_stretches (hr.mono (by decide)) px (aCons (eIxR ix_d (eFld (eVar 0) T.cl T.n_rows) (eVar 1)) aNil))) (sCons (sFor po rfl (iRng2 T.b_range eInt (eCallB c_len (by rfl) T.b_len PySem.boot_len (aCons (eVar 4) aNil))) (gNm 5 nd) (sCons (sAsg (eIxR ix_d (eVar 4) (eVar 5)) (gTup rfl (gCons' (gNm 6 nd) (gCons' (gNm 7 nd) (gCons' (gNm 8 nd) gNil))))) (sOne (sIf (EW.t (wAnd (EW.t (wOr (tCmp o_is (eVar 6) eNon) (wOr1 (tCmp (o_eq hu) (eVar 6) (eVar 2))))) (wAnd (tCmp o_le (eVar 7) (eVar 3)) (wAnd1 (tCmp o_lt (eVar 7) (eVar 8)))))) (sOne (sRet (eVar 5))) sNil)))) (sOne (sRet eInt))))
theorem sc_may_hold : FnScope ["book", "name", "person", "moment"] ["book", "name", "person", "moment"] (defScope s_may_hold) := ⟨rfl, rfl, rfl, by decide +kernel, rfl, by decide +kernel, by decide +kernel⟩
theorem ok_may_hold (T : Txt K mg C) (tb : LamX.TabB base mg (He.cT K ("_law_turn", none)).1 (tbAt K "_law_turn")) : Fn P w K mg base C 5 "may_hold" 4 phi_may_hold := by
  obtain ⟨f, fd, F, g⟩ := T.f_may_hold.ex
  have c_who := ok_Book_who (P := P) (w := w) (base := base) T tb
  have c_copied_from := ok_copied_from (P := P) (w := w) (base := base) T tb
  refine ⟨f, fd, ["book", "name", "person", "moment"], rfl, g, F.kp, F.bindsN fun _ _ _ _ _ _ us hl => match us, hl with | [_, _, _, _], _ => rfl, ?_⟩
  refine fn_ok F sc_may_hold fun cdv A outer s H E hr px po tk => ?_
  have nd := sc_may_hold.nd
  have hu := hr.units
  exact (sCons (sIf (tCmp o_in (eVar 2) (eIxR ix_d (eMeth c_who T.cl (hr.mono (by decide)) px (eVar 0) (aCons (eVar 1) (aCons (eVar 3) aNil))) eInt)) (sOne (sRet eBl)) sNil) (sOne (sRet (eAnd (eIxR ix_d (eFld (eVar 0) T.cl T.n_plain) (eVar 1)) (eOne (eCmp o_gt (eCall c_copied_from (hr.mono (by decide)) px (aCons (eVar 0) (aCons (eVar 1) (aCons (eVar 2) (aCons (eVar 3) aNil))))) eInt))))))
theorem sc_answer : FnScope ["book", "person", "door", "moment", "kinds", "names", "mine", "sure", "name", "kind"] ["book", "person", "door", "moment"] (defScope s_answer) := ⟨rfl, rfl, rfl, by decide +kernel, rfl, by decide +kernel, by decide +kernel⟩
theorem ok_answer (T : Txt K mg C) (tb : LamX.TabB base mg (He.cT K ("_law_turn", none)).1 (tbAt K "_law_turn")) : Fn P w K mg base C 6 "answer" 4 phi_answer := by
  obtain ⟨f, fd, F, g⟩ := T.f_answer.ex
  have c_kinds := ok_Book_kinds (P := P) (w := w) (base := base) T tb
  have c_who := ok_Book_who (P := P) (w := w) (base := base) T tb
  have c_may_hold := ok_may_hold (P := P) (w := w) (base := base) T tb
  refine ⟨f, fd, ["book", "person", "door", "moment"], rfl, g, F.kp, F.bindsN fun _ _ _ _ _ _ us hl => match us, hl with | [_, _, _, _], _ => rfl, ?_⟩
  refine fn_ok F sc_answer fun cdv A outer s H E hr px po tk => ?_
  have nd := sc_answer.nd
  have hu := hr.units
  exact (sCons (sSet 4 nd (eMeth c_kinds T.cl (hr.mono (by decide)) px (eVar 0) (aCons (eVar 2) (aCons (eVar 3) aNil)))) (sCons (sSet 5 nd (eLRg rfl T.b_list T.b_range (eCallB c_len (by rfl) T.b_len PySem.boot_len (aCons (eFld (eVar 0) T.cl T.n_rows) aNil)))) (sCons (sSet 6 nd (eLc rfl nd (iSeq (eVar 5)) (blkOk_by (own := [("name", 8)]) (by kernel_rfl)) (by decide) (fun _ _ _ _ _ => (gNm 8 nd)) (fun _ _ _ _ _ => (tsOne (tCmp (o_eq hu) (eIxR ix_d (eMeth c_who T.cl (hr.mono (by decide)) passL (eVar 0) (aCons (eVar 8) (aCons (eVar 3) aNil))) eInt) (eVar 1)))) (fun _ _ _ _ _ => (eVar 8)))) (sCons (sSet 7 nd (eCmp (o_eq hu) (eLc rfl nd (iSeq (eVar 4)) (blkOk_by (own := [("kind", 9)]) (by kernel_rfl)) (by decide) (fun _ _ _ _ _ => (gNm 9 nd)) (fun _ _ _ _ _ => (tsOne (tCmp (o_eq hu) (eLc rfl nd (iSeq (eVar 6)) (blkOk_by (own := [("name", 8)]) (by kernel_rfl)) (by decide) (fun _ _ _ _ _ => (gNm 8 nd)) (fun _ _ _ _ _ => (tsOne (tCmp o_in (eVar 9) (eIxR ix_d (eFld (eVar 0) T.cl T.n_opens) (eVar 8))))) (fun _ _ _ _ _ => (eVar 8))) (eLst aNil)))) (fun _ _ _ _ _ => (eVar 9))) (eLst aNil))) (sCons (sIf (tEx (eVar 7)) (sOne (sRet eStr)) sNil) (sCons (sFor po rfl (iSeq (eVar 5)) (gNm 8 nd) (sOne (sIf (EW.t (wAnd (tCmp (o_ne hu) (eLc rfl nd (iSeq (eIxR ix_d (eFld (eVar 0) T.cl T.n_opens) (eVar 8))) (blkOk_by (own := [("kind", 9)]) (by kernel_rfl)) (by decide) (fun _ _ _ _ _ => (gNm 9 nd)) (fun _ _ _ _ _ => (tsOne (tCmp o_in (eVar 9) (eVar 4)))) (fun _ _ _ _ _ => (eVar 9))) (eLst aNil)) (wAnd1 (tEx (eCall c_may_hold (hr.mono (by decide)) px (aCons (eVar 0) (aCons (eVar 8) (aCons (eVar 1) (aCons (eVar 3) aNil))))))))) (sOne (sRet eStr)) sNil))) (sOne (sRet eStr))))))))
theorem sc_could : FnScope ["book", "person", "door", "moment"] ["book", "person", "door", "moment"] (defScope s_could) := ⟨rfl, rfl, rfl, by decide +kernel, rfl, by decide +kernel, by decide +kernel⟩
theorem ok_could (T : Txt K mg C) (tb : LamX.TabB base mg (He.cT K ("_law_turn", none)).1 (tbAt K "_law_turn")) : Fn P w K mg base C 7 "could" 4 phi_could := by
  obtain ⟨f, fd, F, g⟩ := T.f_could.ex
  have c_need_all := ok_need_all (P := P) (w := w) (base := base) T tb
  have c_answer := ok_answer (P := P) (w := w) (base := base) T tb
  refine ⟨f, fd, ["book", "person", "door", "moment"], rfl, g, F.kp, F.bindsN fun _ _ _ _ _ _ us hl => match us, hl with | [_, _, _, _], _ => rfl, ?_⟩
  refine fn_ok F sc_could fun cdv A outer s H E hr px po tk => ?_
  have nd := sc_could.nd
  have hu := hr.units
  exact (sCons (sExpr (eCall c_need_all (hr.mono (by decide)) px (aCons (eVar 0) (aCons (eVar 1) (aCons (eVar 2) (aCons (eVar 3) aNil)))))) (sOne (sRet (eCall c_answer (hr.mono (by decide)) px (aCons (eVar 0) (aCons (eVar 1) (aCons (eVar 2) (aCons (eVar 3) aNil))))))))
theorem sc_l_words : FnScope ["_law_book", "_law_case", "_law_moment", "_law_door", "_law_person"] ["_law_book", "_law_case", "_law_moment"] (defScope s_l_words) := ⟨rfl, rfl, rfl, by decide +kernel, rfl, by decide +kernel, by decide +kernel⟩
theorem ok_l_words (T : Txt K mg C) (tb : LamX.TabB base mg (He.cT K ("_law_turn", none)).1 (tbAt K "_law_turn")) : Fn P w K mg base C 8 "_law_words" 3 phi_l_words := by
  obtain ⟨f, fd, F, g⟩ := T.f_l_words.ex
  have c_could := ok_could (P := P) (w := w) (base := base) T tb
  refine ⟨f, fd, ["_law_book", "_law_case", "_law_moment"], rfl, g, F.kp, F.bindsN fun _ _ _ _ _ _ us hl => match us, hl with | [_, _, _], _ => rfl, ?_⟩
  refine fn_ok F sc_l_words fun cdv A outer s H E hr px po tk => ?_
  have nd := sc_l_words.nd
  have hu := hr.units
  exact (sOne (sRet (eLc rfl nd (iRng1 T.b_range (eCallB c_len (by rfl) T.b_len PySem.boot_len (aCons (eIxR ix_d (eVar 1) eInt) aNil))) (blkOk_by (own := [("_law_door", 3)]) (by kernel_rfl)) (by decide) (fun _ _ _ _ _ => (gNm 3 nd)) (fun _ _ _ _ _ => tsNil) (fun _ _ _ _ _ => (eLc rfl nd (iRng1 T.b_range (eIxR ix_d (eVar 1) eInt)) (blkOk_by (own := [("_law_person", 4)]) (by kernel_rfl)) (by decide) (fun _ _ _ _ _ => (gNm 4 nd)) (fun _ _ _ _ _ => tsNil) (fun _ _ _ _ _ => (eCall c_could (hr.mono (by decide)) passL (aCons (eVar 0) (aCons (eVar 4) (aCons (eVar 3) (aCons (eVar 2) aNil)))))))))))
theorem sc_Book_holders : FnScope ["self", "name", "moment"] ["self", "name", "moment"] (defScope s_Book_holders) := ⟨rfl, rfl, rfl, by decide +kernel, rfl, by decide +kernel, by decide +kernel⟩
theorem ok_Book_holders (T : Txt K mg C) (tb : LamX.TabB base mg (He.cT K ("_law_turn", none)).1 (tbAt K "_law_turn")) : Mt P w K mg base C 5 "holders" 3 phi_Book_holders := by
  obtain ⟨f, fd, F, g⟩ := T.f_Book_holders.ex
  have c_need_key := ok_Book_need_key (P := P) (w := w) (base := base) T tb
  have c_need_moment := ok_need_moment (P := P) (w := w) (base := base) T tb
  have c_who := ok_Book_who (P := P) (w := w) (base := base) T tb
  refine ⟨f, fd, ["self", "name", "moment"], rfl, g, F.bindsN fun _ _ _ _ _ _ us hl => match us, hl with | [_, _, _], _ => rfl, ?_⟩
  refine fn_ok F sc_Book_holders fun cdv A outer s H E hr px po tk => ?_
  have nd := sc_Book_holders.nd
  have hu := hr.units
  exact (sCons (sExpr (eMeth c_need_key T.cl (hr.mono (by decide)) px (eVar 0) (aCons (eVar 1) aNil))) (sCons (sExpr (eCall c_need_moment (hr.mono (by decide)) px (aCons (eVar 2) aNil))) (sOne (sRet (eMeth c_who T.cl (hr.mono (by decide)) px (eVar 0) (aCons (eVar 1) (aCons (eVar 2) aNil)))))))
theorem sc_Book_locks : FnScope ["self", "door", "moment"] ["self", "door", "moment"] (defScope s_Book_locks) := ⟨rfl, rfl, rfl, by decide +kernel, rfl, by decide +kernel, by decide +kernel⟩
theorem ok_Book_locks (T : Txt K mg C) (tb : LamX.TabB base mg (He.cT K ("_law_turn", none)).1 (tbAt K "_law_turn")) : Mt P w K mg base C 5 "locks" 3 phi_Book_locks := by
  obtain ⟨f, fd, F, g⟩ := T.f_Book_locks.ex
  have c_need_door := ok_Book_need_door (P := P) (w := w) (base := base) T tb
  have c_need_moment := ok_need_moment (P := P) (w := w) (base := base) T tb
  have c_kinds := ok_Book_kinds (P := P) (w := w) (base := base) T tb
  refine ⟨f, fd, ["self", "door", "moment"], rfl, g, F.bindsN fun _ _ _ _ _ _ us hl => match us, hl with | [_, _, _], _ => rfl, ?_⟩
  refine fn_ok F sc_Book_locks fun cdv A outer s H E hr px po tk => ?_
  have nd := sc_Book_locks.nd
  have hu := hr.units
  exact (sCons (sExpr (eMeth c_need_door T.cl (hr.mono (by decide)) px (eVar 0) (aCons (eVar 1) aNil))) (sCons (sExpr (eCall c_need_moment (hr.mono (by decide)) px (aCons (eVar 2) aNil))) (sOne (sRet (eMeth c_kinds T.cl (hr.mono (by decide)) px (eVar 0) (aCons (eVar 1) (aCons (eVar 2) aNil)))))))
theorem sc_openers : FnScope ["book", "door", "moment", "words", "sure", "person"] ["book", "door", "moment"] (defScope s_openers) := ⟨rfl, rfl, rfl, by decide +kernel, rfl, by decide +kernel, by decide +kernel⟩
theorem ok_openers (T : Txt K mg C) (tb : LamX.TabB base mg (He.cT K ("_law_turn", none)).1 (tbAt K "_law_turn")) : Fn P w K mg base C 7 "openers" 3 phi_openers := by
  obtain ⟨f, fd, F, g⟩ := T.f_openers.ex
  have c_need_door := ok_Book_need_door (P := P) (w := w) (base := base) T tb
  have c_need_moment := ok_need_moment (P := P) (w := w) (base := base) T tb
  have c_answer := ok_answer (P := P) (w := w) (base := base) T tb
  refine ⟨f, fd, ["book", "door", "moment"], rfl, g, F.kp, F.bindsN fun _ _ _ _ _ _ us hl => match us, hl with | [_, _, _], _ => rfl, ?_⟩
  refine fn_ok F sc_openers fun cdv A outer s H E hr px po tk => ?_
  have nd := sc_openers.nd
  have hu := hr.units
  exact (sCons (sExpr (eMeth c_need_door T.cl (hr.mono (by decide)) px (eVar 0) (aCons (eVar 1) aNil))) (sCons (sExpr (eCall c_need_moment (hr.mono (by decide)) px (aCons (eVar 2) aNil))) (sCons (sSet 3 nd (eLc rfl nd (iRng1 T.b_range (eFld (eVar 0) T.cl T.n_many)) (blkOk_by (own := [("person", 5)]) (by kernel_rfl)) (by decide) (fun _ _ _ _ _ => (gNm 5 nd)) (fun _ _ _ _ _ => tsNil) (fun _ _ _ _ _ => (eCall c_answer (hr.mono (by decide)) passL (aCons (eVar 0) (aCons (eVar 5) (aCons (eVar 1) (aCons (eVar 2) aNil)))))))) (sCons (sSetLc 4 rfl nd (iRng1 T.b_range (eFld (eVar 0) T.cl T.n_many)) (blkOk_by (own := [("person", 5)]) (by kernel_rfl)) (by decide) (fun _ _ _ _ _ => (gNm 5 nd)) (fun _ _ _ _ _ => (tsOne (tCmp (o_eq hu) (eIxR ix_d (eVar 3) (eVar 5)) eStr))) (fun _ _ _ _ _ => (eVar 5)) (sw_true rfl rfl rfl (by decide +kernel))) (sOne (sRet (eTup (aCons (eVar 4) (aCons (eLc rfl nd (iRng1 T.b_range (eFld (eVar 0) T.cl T.n_many)) (blkOk_by (own := [("person", 5)]) (by kernel_rfl)) (by decide) (fun _ _ _ _ _ => (gNm 5 nd)) (fun _ _ _ _ _ => (tsOne (tCmp (o_eq hu) (eIxR ix_d (eVar 3) (eVar 5)) eStr))) (fun _ _ _ _ _ => (eVar 5))) aNil)))))))))
theorem sc_first : FnScope ["book", "person", "door", "moment"] ["book", "person", "door"] (defScope s_first) := ⟨rfl, rfl, rfl, by decide +kernel, rfl, by decide +kernel, by decide +kernel⟩
theorem ok_first (T : Txt K mg C) (tb : LamX.TabB base mg (He.cT K ("_law_turn", none)).1 (tbAt K "_law_turn")) : Fn P w K mg base C 7 "first" 3 phi_first := by
  obtain ⟨f, fd, F, g⟩ := T.f_first.ex
  have c_need_all := ok_need_all (P := P) (w := w) (base := base) T tb
  have c_answer := ok_answer (P := P) (w := w) (base := base) T tb
  refine ⟨f, fd, ["book", "person", "door"], rfl, g, F.kp, F.bindsN fun _ _ _ _ _ _ us hl => match us, hl with | [_, _, _], _ => rfl, ?_⟩
  refine fn_ok F sc_first fun cdv A outer s H E hr px po tk => ?_
  have nd := sc_first.nd
  have hu := hr.units
  exact (sCons (sExpr (eCall c_need_all (hr.mono (by decide)) px (aCons (eVar 0) (aCons (eVar 1) (aCons (eVar 2) (aCons eInt aNil)))))) (sCons (sFor po rfl (iRng1 T.b_range (e2 o_add (eGlo (by rfl) T.i_LAST) eInt)) (gNm 3 nd) (sOne (sIf (tCmp (o_ne hu) (eCall c_answer (hr.mono (by decide)) px (aCons (eVar 0) (aCons (eVar 1) (aCons (eVar 2) (aCons (eVar 3) aNil))))) eStr) (sOne (sRet (eVar 3))) sNil))) (sOne (sRet eNon))))
theorem sc_law : FnScope ["_law_script", "_law_d", "_law_case", "_law_persons", "_law_keys", "_law_doors", "_law_book", "_law_begins", "_law_moment", "_law_rows", "_law_holds", "_law_door", "_law_kinds", "_law_person", "_law_word", "_law_mine", "_law_lacks", "_law_due", "_law_found", "_law_name", "_law_sure", "_law_every", "_law_kind", "_law_one", "_law_k"] ["_law_script"] (defScope s_law) := ⟨rfl, rfl, rfl, by decide +kernel, rfl, by decide +kernel, by decide +kernel⟩
theorem ok_law (T : Txt K mg C) (tb : LamX.TabB base mg (He.cT K ("_law_turn", none)).1 (tbAt K "_law_turn")) : Fn P w K mg base C 9 "law" 1 phi_law_v16 := by
  obtain ⟨f, fd, F, g⟩ := T.f_law.ex
  have c__law_dice := ok_l_dice (P := P) (w := w) (base := base) T tb
  have c__law_story := ok_l_story (P := P) (w := w) (base := base) T tb
  have c__law_written := ok_l_written (P := P) (w := w) (base := base) T tb
  have c__law_words := ok_l_words (P := P) (w := w) (base := base) T tb
  have c_holders := ok_Book_holders (P := P) (w := w) (base := base) T tb
  have c_locks := ok_Book_locks (P := P) (w := w) (base := base) T tb
  have c_openers := ok_openers (P := P) (w := w) (base := base) T tb
  have c__law_next := ok_l_next (P := P) (w := w) (base := base) T tb
  have c_first := ok_first (P := P) (w := w) (base := base) T tb
  refine ⟨f, fd, ["_law_script"], rfl, g, F.kp, F.bindsN fun _ _ _ _ _ _ us hl => match us, hl with | [_], _ => rfl, ?_⟩
  refine fn_ok F sc_law fun cdv A outer s H E hr px po tk => ?_
  have nd := sc_law.nd
  have hu := hr.units
  exact (sCons (sSet 1 nd (eCall c__law_dice (hr.mono (by decide)) px (aCons (eVar 0) aNil))) (sCons (sSet 2 nd (eCall c__law_story (hr.mono (by decide)) px (aCons (eVar 1) (aCons eInt aNil)))) (sCons (sAsg (eVar 2) (gTup rfl (gCons' (gNm 3 nd) (gCons' (gNm 4 nd) (gCons' (gNm 5 nd) gNil))))) (sCons (sAsg (eTup (aCons (eCall c__law_written (hr.mono (by decide)) px (aCons (eVar 2) aNil)) (aCons eDNew aNil))) (gTup rfl (gCons' (gNm 6 nd) (gCons' (gNm 7 nd) gNil)))) (sCons (sFor po rfl (iRng1 T.b_range eInt) (gNm 8 nd) (sCons (sSet 9 nd (eCall c__law_words (hr.mono (by decide)) px (aCons (eVar 6) (aCons (eVar 2) (aCons (eVar 8) aNil))))) (sCons (sSet 10 nd (eLc rfl nd (iRng1 T.b_range (eCallB c_len (by rfl) T.b_len PySem.boot_len (aCons (eVar 4) aNil))) (blkOk_by (own := [("_law_name", 19)]) (by kernel_rfl)) (by decide) (fun _ _ _ _ _ => (gNm 19 nd)) (fun _ _ _ _ _ => tsNil) (fun _ _ _ _ _ => (eMeth c_holders T.cl (hr.mono (by decide)) passL (eVar 6) (aCons (eVar 19) (aCons (eVar 8) aNil)))))) (sCons (sIf (tCmp (o_ne hu) (eLc rfl nd (iSeq (eVar 10)) (blkOk_by (own := [("_law_sure", 20), ("_law_every", 21)]) (by kernel_rfl)) (by decide) (fun _ _ _ _ _ => (gTup rfl (gCons' (gNm 20 nd) (gCons' (gNm 21 nd) gNil)))) (fun _ _ _ _ _ => (tsOne (EW.t (wAnd (tCmp o_isNot (eVar 20) eNon) (wAnd1 (tCmp (o_ne hu) (eVar 21) (eLst (aCons (eVar 20) aNil)))))))) (fun _ _ _ _ _ => (eVar 20))) (eLst aNil)) (sOne (sRet eBl)) sNil) (sOne (sFor po rfl (iRng1 T.b_range (eCallB c_len (by rfl) T.b_len PySem.boot_len (aCons (eVar 5) aNil))) (gNm 11 nd) (sCons (sSet 12 nd (eMeth c_locks T.cl (hr.mono (by decide)) px (eVar 6) (aCons (eVar 11) (aCons (eVar 8) aNil)))) (sCons (sFor po rfl (iRng1 T.b_range (eVar 3)) (gNm 13 nd) (sCons (sSet 14 nd (eIxR ix_d (eIxR ix_d (eVar 9) (eVar 11)) (eVar 13))) (sCons (sSet 15 nd (eLc rfl nd (iRng1 T.b_range (eCallB c_len (by rfl) T.b_len PySem.boot_len (aCons (eVar 4) aNil))) (blkOk_by (own := [("_law_name", 19)]) (by kernel_rfl)) (by decide) (fun _ _ _ _ _ => (gNm 19 nd)) (fun _ _ _ _ _ => (tsOne (tCmp (o_eq hu) (eIxR ix_d (eIxR ix_d (eVar 10) (eVar 19)) eInt) (eVar 13)))) (fun _ _ _ _ _ => (eVar 19)))) (sCons (sSetLc 16 rfl nd (iSeq (eVar 12)) (blkOk_by (own := [("_law_kind", 22)]) (by kernel_rfl)) (by decide) (fun _ _ _ _ _ => (gNm 22 nd)) (fun _ _ _ _ _ => (tsOne (tCmp (o_eq hu) (eLc rfl nd (iSeq (eVar 15)) (blkOk_by (own := [("_law_name", 19)]) (by kernel_rfl)) (by decide) (fun _ _ _ _ _ => (gNm 19 nd)) (fun _ _ _ _ _ => (tsOne (tCmp o_in (eVar 22) (eIxR ix_d (eIxR ix_d (eVar 4) (eVar 19)) eInt)))) (fun _ _ _ _ _ => (eVar 19))) (eLst aNil)))) (fun _ _ _ _ _ => (eVar 22)) (sw_true rfl rfl rfl (by decide +kernel))) (sCons (sIf (EW.t (wOr (tCmp (o_ne hu) (eCmp (o_eq hu) (eVar 14) eStr) (eCmp (o_eq hu) (eVar 16) (eLst aNil))) (wOr1 (EW.t (wAnd (tCmp (o_eq hu) (eVar 12) (eLst (aCons (e1 u_neg eInt) aNil))) (wAnd1 (tCmp (o_ne hu) (eVar 14) eStr))))))) (sOne (sRet eBl)) sNil) (sOne (sIf (EW.t (wAnd (tCmp (o_ne hu) (eVar 14) eStr) (wAnd1 (tDNotIn' (hu1 hu) (eTup (aCons (eVar 13) (aCons (eVar 11) aNil))) (eVar 7))))) (sOne (sDPut' (hu1 hu) (eVar 7) (eTup (aCons (eVar 13) (aCons (eVar 11) aNil))) (eVar 8))) sNil))))))) (sCons (sSetLc 17 rfl nd (iSeq (eTup (aCons eStr (aCons eStr aNil)))) (blkOk_by (own := [("_law_one", 23)]) (by kernel_rfl)) (by decide) (fun _ _ _ _ _ => (gNm 23 nd)) (fun _ _ _ _ _ => tsNil) (fun _ _ _ _ _ => (eLc rfl nd (iRng1 T.b_range (eVar 3)) (blkOk_by (own := [("_law_k", 24)]) (by kernel_rfl)) (by decide) (fun _ _ _ _ _ => (gNm 24 nd)) (fun _ _ _ _ _ => (tsOne (tCmp (o_eq hu) (eIxR ix_d (eIxR ix_d (eVar 9) (eVar 11)) (eVar 24)) (eVar 23)))) (fun _ _ _ _ _ => (eVar 24)))) (sw_true rfl rfl rfl (by decide +kernel))) (sOne (sIf (tCmp (o_ne hu) (eCall c_openers (hr.mono (by decide)) px (aCons (eVar 6) (aCons (eVar 11) (aCons (eVar 8) aNil)))) (eCallTy c_tuple (by rfl) T.b_tuple (by decide +kernel) (aCons (eVar 17) aNil))) (sOne (sRet eBl)) sNil))))))))))) (sCons (sAsg (eTup (aCons (eCall c__law_next (hr.mono (by decide)) px (aCons (eVar 1) (aCons (eVar 3) aNil))) (aCons (eCall c__law_next (hr.mono (by decide)) px (aCons (eVar 1) (aCons (eCallB c_len (by rfl) T.b_len PySem.boot_len (aCons (eVar 5) aNil)) aNil))) aNil))) (gTup rfl (gCons' (gNm 13 nd) (gCons' (gNm 11 nd) gNil)))) (sCons (sSet 18 nd (eCall c_first (hr.mono (by decide)) px (aCons (eVar 6) (aCons (eVar 13) (aCons (eVar 11) aNil))))) (sCons (sIf (tDIn' (hu1 hu) (eTup (aCons (eVar 13) (aCons (eVar 11) aNil))) (eVar 7)) (sOne (sRet (eCmp (o_eq hu) (eVar 18) (eDGet (hu1 hu) (eVar 7) (eTup (aCons (eVar 13) (aCons (eVar 11) aNil))))))) sNil) (sOne (sRet (eOr (eCmp o_is (eVar 18) eNon) (eOne (eCmp o_ge (eVar 18) eInt)))))))))))))
theorem ok_law_at (T : Txt K mg C) (tb : LamX.TabB base mg (He.cT K ("_law_turn", none)).1 (tbAt K "_law_turn")) {f : Addr} {fd : FuncData} (F : FunD K "law" "law" (defArgs s_law) (defBody s_law) (defScope s_law) [] [] f fd) : FnOk P w K mg base (L2.CX P w) 9 f fd ["_law_script"] (spF K C 1 phi_law_v16) := by
  have c__law_dice := ok_l_dice (P := P) (w := w) (base := base) T tb
  have c__law_story := ok_l_story (P := P) (w := w) (base := base) T tb
  have c__law_written := ok_l_written (P := P) (w := w) (base := base) T tb
  have c__law_words := ok_l_words (P := P) (w := w) (base := base) T tb
  have c_holders := ok_Book_holders (P := P) (w := w) (base := base) T tb
  have c_locks := ok_Book_locks (P := P) (w := w) (base := base) T tb
  have c_openers := ok_openers (P := P) (w := w) (base := base) T tb
  have c__law_next := ok_l_next (P := P) (w := w) (base := base) T tb
  have c_first := ok_first (P := P) (w := w) (base := base) T tb
  refine fn_ok F sc_law fun cdv A outer s H E hr px po tk => ?_
  have nd := sc_law.nd
  have hu := hr.units
  exact (sCons (sSet 1 nd (eCall c__law_dice (hr.mono (by decide)) px (aCons (eVar 0) aNil))) (sCons (sSet 2 nd (eCall c__law_story (hr.mono (by decide)) px (aCons (eVar 1) (aCons eInt aNil)))) (sCons (sAsg (eVar 2) (gTup rfl (gCons' (gNm 3 nd) (gCons' (gNm 4 nd) (gCons' (gNm 5 nd) gNil))))) (sCons (sAsg (eTup (aCons (eCall c__law_written (hr.mono (by decide)) px (aCons (eVar 2) aNil)) (aCons eDNew aNil))) (gTup rfl (gCons' (gNm 6 nd) (gCons' (gNm 7 nd) gNil)))) (sCons (sFor po rfl (iRng1 T.b_range eInt) (gNm 8 nd) (sCons (sSet 9 nd (eCall c__law_words (hr.mono (by decide)) px (aCons (eVar 6) (aCons (eVar 2) (aCons (eVar 8) aNil))))) (sCons (sSet 10 nd (eLc rfl nd (iRng1 T.b_range (eCallB c_len (by rfl) T.b_len PySem.boot_len (aCons (eVar 4) aNil))) (blkOk_by (own := [("_law_name", 19)]) (by kernel_rfl)) (by decide) (fun _ _ _ _ _ => (gNm 19 nd)) (fun _ _ _ _ _ => tsNil) (fun _ _ _ _ _ => (eMeth c_holders T.cl (hr.mono (by decide)) passL (eVar 6) (aCons (eVar 19) (aCons (eVar 8) aNil)))))) (sCons (sIf (tCmp (o_ne hu) (eLc rfl nd (iSeq (eVar 10)) (blkOk_by (own := [("_law_sure", 20), ("_law_every", 21)]) (by kernel_rfl)) (by decide) (fun _ _ _ _ _ => (gTup rfl (gCons' (gNm 20 nd) (gCons' (gNm 21 nd) gNil)))) (fun _ _ _ _ _ => (tsOne (EW.t (wAnd (tCmp o_isNot (eVar 20) eNon) (wAnd1 (tCmp (o_ne hu) (eVar 21) (eLst (aCons (eVar 20) aNil)))))))) (fun _ _ _ _ _ => (eVar 20))) (eLst aNil)) (sOne (sRet eBl)) sNil) (sOne (sFor po rfl (iRng1 T.b_range (eCallB c_len (by rfl) T.b_len PySem.boot_len (aCons (eVar 5) aNil))) (gNm 11 nd) (sCons (sSet 12 nd (eMeth c_locks T.cl (hr.mono (by decide)) px (eVar 6) (aCons (eVar 11) (aCons (eVar 8) aNil)))) (sCons (sFor po rfl (iRng1 T.b_range (eVar 3)) (gNm 13 nd) (sCons (sSet 14 nd (eIxR ix_d (eIxR ix_d (eVar 9) (eVar 11)) (eVar 13))) (sCons (sSet 15 nd (eLc rfl nd (iRng1 T.b_range (eCallB c_len (by rfl) T.b_len PySem.boot_len (aCons (eVar 4) aNil))) (blkOk_by (own := [("_law_name", 19)]) (by kernel_rfl)) (by decide) (fun _ _ _ _ _ => (gNm 19 nd)) (fun _ _ _ _ _ => (tsOne (tCmp (o_eq hu) (eIxR ix_d (eIxR ix_d (eVar 10) (eVar 19)) eInt) (eVar 13)))) (fun _ _ _ _ _ => (eVar 19)))) (sCons (sSetLc 16 rfl nd (iSeq (eVar 12)) (blkOk_by (own := [("_law_kind", 22)]) (by kernel_rfl)) (by decide) (fun _ _ _ _ _ => (gNm 22 nd)) (fun _ _ _ _ _ => (tsOne (tCmp (o_eq hu) (eLc rfl nd (iSeq (eVar 15)) (blkOk_by (own := [("_law_name", 19)]) (by kernel_rfl)) (by decide) (fun _ _ _ _ _ => (gNm 19 nd)) (fun _ _ _ _ _ => (tsOne (tCmp o_in (eVar 22) (eIxR ix_d (eIxR ix_d (eVar 4) (eVar 19)) eInt)))) (fun _ _ _ _ _ => (eVar 19))) (eLst aNil)))) (fun _ _ _ _ _ => (eVar 22)) (sw_true rfl rfl rfl (by decide +kernel))) (sCons (sIf (EW.t (wOr (tCmp (o_ne hu) (eCmp (o_eq hu) (eVar 14) eStr) (eCmp (o_eq hu) (eVar 16) (eLst aNil))) (wOr1 (EW.t (wAnd (tCmp (o_eq hu) (eVar 12) (eLst (aCons (e1 u_neg eInt) aNil))) (wAnd1 (tCmp (o_ne hu) (eVar 14) eStr))))))) (sOne (sRet eBl)) sNil) (sOne (sIf (EW.t (wAnd (tCmp (o_ne hu) (eVar 14) eStr) (wAnd1 (tDNotIn' (hu1 hu) (eTup (aCons (eVar 13) (aCons (eVar 11) aNil))) (eVar 7))))) (sOne (sDPut' (hu1 hu) (eVar 7) (eTup (aCons (eVar 13) (aCons (eVar 11) aNil))) (eVar 8))) sNil))))))) (sCons (sSetLc 17 rfl nd (iSeq (eTup (aCons eStr (aCons eStr aNil)))) (blkOk_by (own := [("_law_one", 23)]) (by kernel_rfl)) (by decide) (fun _ _ _ _ _ => (gNm 23 nd)) (fun _ _ _ _ _ => tsNil) (fun _ _ _ _ _ => (eLc rfl nd (iRng1 T.b_range (eVar 3)) (blkOk_by (own := [("_law_k", 24)]) (by kernel_rfl)) (by decide) (fun _ _ _ _ _ => (gNm 24 nd)) (fun _ _ _ _ _ => (tsOne (tCmp (o_eq hu) (eIxR ix_d (eIxR ix_d (eVar 9) (eVar 11)) (eVar 24)) (eVar 23)))) (fun _ _ _ _ _ => (eVar 24)))) (sw_true rfl rfl rfl (by decide +kernel))) (sOne (sIf (tCmp (o_ne hu) (eCall c_openers (hr.mono (by decide)) px (aCons (eVar 6) (aCons (eVar 11) (aCons (eVar 8) aNil)))) (eCallTy c_tuple (by rfl) T.b_tuple (by decide +kernel) (aCons (eVar 17) aNil))) (sOne (sRet eBl)) sNil))))))))))) (sCons (sAsg (eTup (aCons (eCall c__law_next (hr.mono (by decide)) px (aCons (eVar 1) (aCons (eVar 3) aNil))) (aCons (eCall c__law_next (hr.mono (by decide)) px (aCons (eVar 1) (aCons (eCallB c_len (by rfl) T.b_len PySem.boot_len (aCons (eVar 5) aNil)) aNil))) aNil))) (gTup rfl (gCons' (gNm 13 nd) (gCons' (gNm 11 nd) gNil)))) (sCons (sSet 18 nd (eCall c_first (hr.mono (by decide)) px (aCons (eVar 6) (aCons (eVar 13) (aCons (eVar 11) aNil))))) (sCons (sIf (tDIn' (hu1 hu) (eTup (aCons (eVar 13) (aCons (eVar 11) aNil))) (eVar 7)) (sOne (sRet (eCmp (o_eq hu) (eVar 18) (eDGet (hu1 hu) (eVar 7) (eTup (aCons (eVar 13) (aCons (eVar 11) aNil))))))) sNil) (sOne (sRet (eOr (eCmp o_is (eVar 18) eNon) (eOne (eCmp o_ge (eVar 18) eInt)))))))))))))
end
end KR
set_option Elab.async false
set_option linter.all false
set_option maxRecDepth 100000
set_option maxHeartbeats 2000000
namespace KR
open PySem L2
/-- all stands as it did, but for these -/
def Same (p : Nat → Prop) (o o' : Om) : Prop := o.length ≤ o'.length ∧ ∀ i, i < o.length → ¬ p i → o'[i]? = o[i]?
theorem Same.refl (p : Nat → Prop) (o : Om) : Same p o o := ⟨Nat.le_refl _, fun _ _ _ => rfl⟩
theorem Same.trans {p : Nat → Prop} {o o1 o2 : Om} (a : Same p o o1) (b : Same p o1 o2) : Same p o o2 := ⟨Nat.le_trans a.1 b.1, fun i h n => (b.2 i (Nat.lt_of_lt_of_le h a.1) n).trans (a.2 i h n)⟩
theorem Same.weak {p q : Nat → Prop} {o o1 : Om} (a : Same p o o1) (h : ∀ i, i < o.length → p i → q i) : Same q o o1 := ⟨a.1, fun i hi n => a.2 i hi fun z => n (h i hi z)⟩
theorem Same.set (o : Om) (n : Nat) (x : MO) : Same (· = n) o (o.set n x) := ⟨by simp, fun i _ h => List.getElem?_set_ne (Ne.symm h)⟩
theorem Same.app (p : Nat → Prop) (o e : Om) : Same p o (o ++ e) := ⟨by simp, fun i h _ => List.getElem?_append_left h⟩
theorem BkAt.lt {o : Om} {b : Nat} {B : Bk} (h : BkAt o b B) : b + 4 < o.length := (List.getElem?_eq_some_iff.mp h.i4).1
theorem BkAt.same {p : Nat → Prop} {o o' : Om} {b : Nat} {B : Bk} (h : BkAt o b B) (s : Same p o o') (hp : ∀ j, j < 5 → ¬ p (b + j)) : BkAt o' b B := by
  have l := h.lt
  exact ⟨(s.2 b (by omega) (hp 0 (by omega))).trans h.i0, (s.2 (b + 1) (by omega) (hp 1 (by omega))).trans h.i1, (s.2 (b + 2) (by omega) (hp 2 (by omega))).trans h.i2,
    (s.2 (b + 3) (by omega) (hp 3 (by omega))).trans h.i3, (s.2 (b + 4) (by omega) (hp 4 (by omega))).trans h.i4⟩
def bkO (b : Nat) (B : Bk) : List MO := [.ins (bkF b B.many), .ml (B.doors.map eRows), .ml (B.keys.map fun k => eTs k.opens), .ml (B.keys.map fun k => .bl k.plain), .ml (B.keys.map fun k => eRows k.rows)]
theorem bkAt_new (o : Om) (B : Bk) : BkAt (o ++ bkO o.length B) o.length B := by
  refine ⟨?_, ?_, ?_, ?_, ?_⟩ <;> rw [List.getElem?_append_right (by omega)] <;> simp [bkO]
@[simp] theorem at_app (o : Om) (x : MO) (e : Om) : (o ++ x :: e)[o.length]? = some x := by rw [List.getElem?_append_right (Nat.le_refl _)]; simp
@[simp] theorem set_app (o : Om) (x y : MO) (e : Om) : (o ++ x :: e).set o.length y = o ++ y :: e := by rw [List.set_append_right _ _ (Nat.le_refl _)]; simp
@[simp] theorem fv_app (o : Om) (fs : List (Str × D)) (e : Om) : fv (o ++ .ins fs :: e) (.obj o.length) = some (o.length, fs) := fv_obj (at_app o _ e)
@[simp] theorem ev_SetF (m : Str) (g f : DE) (ρ : Rho) (o : Om) : dSetF m g f ρ o = (f ρ o).bindS fun v o1 => (g ρ o1).bindS fun x o2 => match fv o2 x with
  | some (n, fs) => if fs.length < 100 then .nx ρ (o2.set n (.ins (putD m v fs))) else .bad
  | none => .bad := rfl
@[simp] theorem ev_SetI (g h f : DE) (ρ : Rho) (o : Om) : dSetI g h f ρ o = (f ρ o).bindS fun v o1 => (g ρ o1).bindS fun x o2 => (h ρ o2).bindS fun i o3 => match hv o3 x, i with
  | some (n, xs), .int k => match setD xs k v with
    | some ys => .nx ρ (o3.set n (.ml ys))
    | none => .bad
  | _, _ => .bad := rfl
@[simp] theorem ev_LstH (f : DA) (ρ : Rho) (o : Om) : dLstH f ρ o = (f ρ o).bind fun xs o1 => if xs.length ≤ 1000 then .ok (.obj o1.length) (o1 ++ [.ml xs]) else .bad := rfl
@[simp] theorem ev_BM (op : List D → List D → Option (List D × D)) (g : DE) (f : DA) (ρ : Rho) (o : Om) : dBM op g f ρ o = (g ρ o).bind fun x o1 => if (hv o1 x).isSome = true then ((f ρ o1).bind fun vs o2 => match hv o2 x with
  | some (n, xs) => match op xs vs with
    | some (ys, z) => .ok z (o2.set n (.ml ys))
    | none => .bad
  | none => .bad) else .bad := rfl
theorem put_many (v : D) : putD "many" v [] = ([("many", v)] : List (Str × D)) := rfl
theorem put_doors (a v : D) : putD "doors" v ([("many", a)] : List (Str × D)) = ([("many", a), ("doors", v)] : List (Str × D)) := rfl
theorem put_opens (a b v : D) : putD "opens" v ([("many", a), ("doors", b)] : List (Str × D)) = ([("many", a), ("doors", b), ("opens", v)] : List (Str × D)) := rfl
theorem put_plain (a b c v : D) : putD "plain" v ([("many", a), ("doors", b), ("opens", c)] : List (Str × D)) = ([("many", a), ("doors", b), ("opens", c), ("plain", v)] : List (Str × D)) := rfl
theorem put_rows (a b c d v : D) : putD "rows" v ([("many", a), ("doors", b), ("opens", c), ("plain", d)] : List (Str × D)) = ([("many", a), ("doors", b), ("opens", c), ("plain", d), ("rows", v)] : List (Str × D)) := rfl
theorem init_eq (o : Om) (many doors : Nat) (hm : 1 ≤ many ∧ many ≤ 8) (hd : 1 ≤ doors ∧ doors ≤ 4) :
    phi_Book_init [.obj o.length, .int many, .int doors] (o ++ [.ins []]) = .ok .non (o ++ bkO o.length ⟨many, List.replicate doors [], []⟩) := by
  obtain ⟨m1, m2⟩ := hm
  obtain ⟨d1, d2⟩ := hd
  have a1 : (1 : Int) ≤ many := by omega
  have a2 : (many : Int) ≤ 8 := by omega
  have b1 : (1 : Int) ≤ doors := by omega
  have b2 : (doors : Int) ≤ 4 := by omega
  have b3 : (-100000 : Int) ≤ doors := by omega
  have b4 : (doors : Int) ≤ 100000 := by omega
  refine def_ok ?_
  unfold den_Book_init
  simp [a1, a2, b1, b2, b3, b4, put_many]
  rw [lc_r doors (by omega) (fun _ => true) (fun _ => D.lst []) id]
  · simp [put_doors, put_opens, put_plain, put_rows, bkO, bkF, eRows]
    rw [List.map_const', List.length_range]
  · intro x hx
    exact ⟨_, rfl, rfl, fun _ => rfl⟩
theorem srt_self {ns : List Int} (h : ns.Pairwise (· < ·)) : srtI (dd ns) = ns := by
  have nd : ns.Nodup := h.imp fun h => Int.ne_of_lt h
  have pm : (dd ns).Perm ns := (List.perm_ext_iff_of_nodup (nodup_dd ns) nd).2 fun k => mem_dd ns k
  exact srt_uniq ((srtI_perm _).trans pm) (srtI_srt _) (h.imp fun h => Int.le_of_lt h)
def addKey (B : Bk) (k : Key) : Bk := ⟨B.many, B.doors, B.keys ++ [k]⟩
def setKey (B : Bk) (n : Nat) (k : Key) : Bk := ⟨B.many, B.doors, B.keys.set n k⟩
def setDoor (B : Bk) (n : Nat) (rs : List Row) : Bk := ⟨B.many, B.doors.set n rs, B.keys⟩
theorem cut_eq {o : Om} {b : Nat} {B : Bk} (h : BkAt o b B) (hk : B.keys.length < 6) (opens : List Int) (plain : Bool) (hs : opens.Pairwise (· < ·)) (hl : opens.length ≤ 10) (hr : ∀ k ∈ opens, 0 ≤ k ∧ k ≤ 9) :
    ∃ o', phi_Book_cut [.obj b, eTs opens, .bl plain] o = .ok (.int B.keys.length) o' ∧ BkAt o' b (addKey B ⟨opens, plain, []⟩) ∧ Same (fun i => b ≤ i ∧ i < b + 5) o o' := by
  have lt := h.lt
  have l : B.keys.length < 100000 := by omega
  refine ⟨((o.set (b + 2) (.ml ((B.keys.map fun k => eTs k.opens) ++ [eTs opens]))).set (b + 3) (.ml ((B.keys.map fun k => .bl k.plain) ++ [.bl plain]))).set (b + 4) (.ml ((B.keys.map fun k => eRows k.rows) ++ [.lst []])), ?_, ?_, ?_⟩
  · have s1 : opSSet o (eTs opens) = some (.lst (opens.map .int)) := by
      show (allI (opens.map .int)).bind _ = _
      rw [allI_ints]
      show (if (dd opens).length < 64 then some (D.lst ((srtI (dd opens)).map .int)) else none) = _
      rw [if_pos (Nat.lt_of_le_of_lt (len_dd _) (by omega)), srt_self hs]
    have s2 : opList o [eTs opens] = some (.lst (opens.map .int)) := rfl
    have s3 : ∀ o' : Om, opTuple o' [eTs opens] = some (eTs opens) := fun _ => rfl
    have ne6 : opEq o (.int B.keys.length) (.int 6) = some (.bl false) := by
      rw [eq_ints, beq_eq_false_iff_ne.mpr (by omega)]
    have e1 : fv (o.set (b + 2) (.ml ((B.keys.map fun k => eTs k.opens) ++ [eTs opens]))) (.obj b) = some (b, bkF b B.many) := fv_obj (by rw [List.getElem?_set_ne (by omega)]; exact h.i0)
    have e2 : hv (o.set (b + 2) (.ml ((B.keys.map fun k => eTs k.opens) ++ [eTs opens]))) (.obj (b + 3)) = some (b + 3, B.keys.map fun k => .bl k.plain) := hv_obj (by rw [List.getElem?_set_ne (by omega)]; exact h.i3)
    have e3 : fv ((o.set (b + 2) (.ml ((B.keys.map fun k => eTs k.opens) ++ [eTs opens]))).set (b + 3) (.ml ((B.keys.map fun k => .bl k.plain) ++ [.bl plain]))) (.obj b) = some (b, bkF b B.many) :=
      fv_obj (by rw [List.getElem?_set_ne (by omega), List.getElem?_set_ne (by omega)]; exact h.i0)
    have e4 : hv ((o.set (b + 2) (.ml ((B.keys.map fun k => eTs k.opens) ++ [eTs opens]))).set (b + 3) (.ml ((B.keys.map fun k => .bl k.plain) ++ [.bl plain]))) (.obj (b + 4)) = some (b + 4, B.keys.map fun k => eRows k.rows) :=
      hv_obj (by rw [List.getElem?_set_ne (by omega), List.getElem?_set_ne (by omega)]; exact h.i4)
    have e5 : fv (((o.set (b + 2) (.ml ((B.keys.map fun k => eTs k.opens) ++ [eTs opens]))).set (b + 3) (.ml ((B.keys.map fun k => .bl k.plain) ++ [.bl plain]))).set (b + 4) (.ml ((B.keys.map fun k => eRows k.rows) ++ [.lst []]))) (.obj b) = some (b, bkF b B.many) := fv_obj (by rw [List.getElem?_set_ne (by omega), List.getElem?_set_ne (by omega), List.getElem?_set_ne (by omega)]; exact h.i0)
    have e6 : qv (((o.set (b + 2) (.ml ((B.keys.map fun k => eTs k.opens) ++ [eTs opens]))).set (b + 3) (.ml ((B.keys.map fun k => .bl k.plain) ++ [.bl plain]))).set (b + 4) (.ml ((B.keys.map fun k => eRows k.rows) ++ [.lst []]))) (.obj (b + 4)) = some ((B.keys.map fun k => eRows k.rows) ++ [.lst []]) := qv_obj (by rw [List.getElem?_set_self (by simp; omega)])
    have e0 : hv o (.obj (b + 2)) = some (b + 2, B.keys.map fun k => eTs k.opens) := hv_obj h.i2
    refine def_ok ?_
    unfold den_Book_cut
    have q1 : qv o (eTs opens) = some (opens.map .int) := rfl
    simp [s1, s2, eq_lints, q1]
    unfold eTs
    rw [lc_t D.int opens (by omega) (fun k => !(decide (0 ≤ k) && decide (k ≤ 9))) id D.int]
    · have z : opens.filter (fun k => !(decide (0 ≤ k) && decide (k ≤ 9))) = [] := by
        rw [List.filter_eq_nil_iff]
        intro k hk
        have := hr k hk
        simp [this.1, this.2]
      rw [z]
      have nn := ne_nil o []
      simp only [List.map_nil] at nn ⊢
      unfold eTs at *
      simp [nn, h.fv, h.q4, ne6, e0, mAppend, l, s3, e1, e2, e3, e4, e5, e6]
    · intro k hk
      refine ⟨_, rfl, ?_, fun _ => rfl⟩
      simp [wipeE]
      by_cases q : 0 ≤ k <;> simp [q]
  · refine ⟨?_, ?_, ?_, ?_, ?_⟩
    · rw [List.getElem?_set_ne (by omega), List.getElem?_set_ne (by omega), List.getElem?_set_ne (by omega)]; exact h.i0
    · rw [List.getElem?_set_ne (by omega), List.getElem?_set_ne (by omega), List.getElem?_set_ne (by omega)]; exact h.i1
    · rw [List.getElem?_set_ne (by omega), List.getElem?_set_ne (by omega), List.getElem?_set_self (by omega)]; simp [addKey]
    · rw [List.getElem?_set_ne (by omega), List.getElem?_set_self (by simp; omega)]; simp [addKey]
    · rw [List.getElem?_set_self (by simp; omega)]; simp [addKey, eRows]
  · refine ⟨by simp, fun i hi n => ?_⟩
    rw [List.getElem?_set_ne (by omega), List.getElem?_set_ne (by omega), List.getElem?_set_ne (by omega)]
theorem map_set_same {α β : Type} (f : α → β) : ∀ (l : List α) (n : Nat) (x y : α), l[n]? = some y → f x = f y → (l.set n x).map f = l.map f
  | [], n, x, y, h, e => by simp at h
  | a :: l, 0, x, y, h, e => by simp at h; subst h; simp [e]
  | a :: l, n + 1, x, y, h, e => by rw [List.set_cons_succ, List.map_cons, List.map_cons, map_set_same f l n x y (by simpa using h) e]
theorem setD_nat (xs : List D) (n : Nat) (v : D) (h : n < xs.length) : setD xs (n : Int) v = some (xs.set n v) := by
  unfold setD L2.ixN
  rw [if_pos (by omega), if_pos (by omega)]
  simp
theorem hand_eq {o : Om} {b : Nat} {B : Bk} (h : BkAt o b B) (n : Nat) (k : Key) (hk : B.keys[n]? = some k) (place : Nat) (hp : place ≤ k.rows.length) (hl : k.rows.length < 8) (r : Row) (hw : ∀ i, r.w = some i → 0 ≤ i ∧ i < B.many) (hval : ValidRow r)
    (hf : Fit (k.rows.take place ++ [r] ++ k.rows.drop place)) :
    ∃ o', phi_Book_hand [.obj b, .int n, .int place, eO r.w, .int r.e, .int r.l] o = .ok .non o' ∧ BkAt o' b (setKey B n ⟨k.opens, k.plain, k.rows.take place ++ [r] ++ k.rows.drop place⟩) ∧ Same (fun i => b ≤ i ∧ i < b + 5) o o' := by
  have lt := h.lt
  have hn : n < B.keys.length := (List.getElem?_eq_some_iff.mp hk).1
  refine ⟨o.set (b + 4) (.ml ((B.keys.map fun k => eRows k.rows).set n (eRows (k.rows.take place ++ [r] ++ k.rows.drop place)))), ?_, ?_, ?_⟩
  · have wr := with_row_eq k.rows r o hl hval place hp hf
    unfold eRow at wr
    have e0 : hv o (.obj (b + 4)) = some (b + 4, B.keys.map fun k => eRows k.rows) := hv_obj h.i4
    have sd : ∀ v, setD (B.keys.map fun k => eRows k.rows) (n : Int) v = some ((B.keys.map fun k => eRows k.rows).set n v) := fun v => setD_nat _ _ _ (by simpa using hn)
    refine def_ok ?_
    unfold den_Book_hand
    simp [h.fv, h.q4, need_key_eq h n hn, atI_nat, hk, need_place_eq k.rows place o hp hl]
    cases hw2 : r.w with
    | none =>
      rw [hw2] at wr
      simp [eO, isN] at wr ⊢
      simp [h.fv, h.q4, atI_nat, hk, wr, e0, sd]
    | some i =>
      obtain ⟨i0, i1⟩ := hw i hw2
      have ei : i = ((i.toNat : Nat) : Int) := by omega
      have np := need_person_eq h i.toNat (by omega)
      rw [← ei] at np
      rw [hw2] at wr
      simp [eO, isN] at wr ⊢
      simp [h.fv, h.q4, atI_nat, hk, wr, e0, sd, np]
  · refine ⟨?_, ?_, ?_, ?_, ?_⟩
    · rw [List.getElem?_set_ne (by omega)]; exact h.i0
    · rw [List.getElem?_set_ne (by omega)]; exact h.i1
    · rw [List.getElem?_set_ne (by omega), h.i2]; simp only [setKey]; rw [map_set_same (fun k : Key => eTs k.opens) B.keys n _ k hk]; rfl
    · rw [List.getElem?_set_ne (by omega), h.i3]; simp only [setKey]; rw [map_set_same (fun k : Key => D.bl k.plain) B.keys n _ k hk]; rfl
    · rw [List.getElem?_set_self (by omega)]; simp [setKey]
  · exact ⟨by simp, fun i hi n => List.getElem?_set_ne (by omega)⟩
theorem fit_eq {o : Om} {b : Nat} {B : Bk} (h : BkAt o b B) (n : Nat) (rs : List Row) (hk : B.doors[n]? = some rs) (place : Nat) (hp : place ≤ rs.length) (hl : rs.length < 8) (r : Row) (kd : Int) (hw : r.w = some kd) (hr : 0 ≤ kd ∧ kd ≤ 9) (hval : ValidRow r)
    (hf : Fit (rs.take place ++ [r] ++ rs.drop place)) :
    ∃ o', phi_Book_fit [.obj b, .int n, .int place, .int kd, .int r.e, .int r.l] o = .ok .non o' ∧ BkAt o' b (setDoor B n (rs.take place ++ [r] ++ rs.drop place)) ∧ Same (fun i => b ≤ i ∧ i < b + 5) o o' := by
  have lt := h.lt
  have hn : n < B.doors.length := (List.getElem?_eq_some_iff.mp hk).1
  refine ⟨o.set (b + 1) (.ml ((B.doors.map eRows).set n (eRows (rs.take place ++ [r] ++ rs.drop place)))), ?_, ?_, ?_⟩
  · have wr := with_row_eq rs r o hl hval place hp hf
    unfold eRow at wr
    rw [hw] at wr
    have e0 : hv o (.obj (b + 1)) = some (b + 1, B.doors.map eRows) := hv_obj h.i1
    have sd : ∀ v, setD (B.doors.map eRows) (n : Int) v = some ((B.doors.map eRows).set n v) := fun v => setD_nat _ _ _ (by simpa using hn)
    refine def_ok ?_
    unfold den_Book_fit
    simp [h.fv, h.q1, need_door_eq h n hn, atI_nat, hk, need_place_eq rs place o hp hl, hr.1, hr.2]
    simp [eO] at wr ⊢
    simp [h.fv, h.q1, atI_nat, hk, wr, e0, sd]
  · refine ⟨?_, ?_, ?_, ?_, ?_⟩
    · rw [List.getElem?_set_ne (by omega)]; exact h.i0
    · rw [List.getElem?_set_self (by omega)]; simp [setDoor]
    · rw [List.getElem?_set_ne (by omega)]; exact h.i2
    · rw [List.getElem?_set_ne (by omega)]; exact h.i3
    · rw [List.getElem?_set_ne (by omega)]; exact h.i4
  · exact ⟨by simp, fun i hi n => List.getElem?_set_ne (by omega)⟩
end KR
set_option Elab.async false
set_option linter.all false
set_option maxRecDepth 100000
set_option maxHeartbeats 2000000
namespace KR
open PySem L2
/-! ### the dice -/
def Dc (o : Om) : Prop := ∃ ns pos mixed rest, o[0]? = some (.ml [.scr ns, .int pos, .int mixed, .int rest]) ∧ 0 ≤ pos ∧ 0 ≤ mixed
theorem Dc.same {p : Nat → Prop} {o o' : Om} (h : Dc o) (s : Same p o o') (hp : ¬ p 0) : Dc o' := by
  obtain ⟨ns, pos, mixed, rest, h0, h1, h2⟩ := h
  exact ⟨ns, pos, mixed, rest, (s.2 0 (List.getElem?_eq_some_iff.mp h0).1 hp).trans h0, h1, h2⟩
theorem next_V {o : Om} {m : Int} {Q : D → Om → Prop} {X : Xc → Om → Prop} (h : Dc o) (h0 : 0 < m) (h1 : m < 1073741824) (k : ∀ (r : Nat) o', (r : Int) < m → Dc o' → Same (· = 0) o o' → Q (.int r) o') : V Q X (phi_l_next [.obj 0, .int m] o) := by
  obtain ⟨ns, pos, mixed, rest, ho, hp, hm⟩ := h
  have l0 : 0 < o.length := (List.getElem?_eq_some_iff.mp ho).1
  have mods : ∀ x : Int, ∃ r : Nat, x % m = (r : Int) ∧ (r : Int) < m := fun x => ⟨(x % m).toNat, by have := Int.emod_nonneg x (Int.ne_of_gt h0); omega, by have := Int.emod_nonneg x (Int.ne_of_gt h0); have := Int.emod_lt_of_pos x h0; omega⟩
  have fin : ∀ (x : Int) (a b c : Int), 0 ≤ a → 0 ≤ b → Q (.int (x % m)) (o.set 0 (.ml [.scr ns, .int a, .int b, .int c])) := fun x a b c ha hb => by
    obtain ⟨r, e, hr⟩ := mods x
    rw [e]
    exact k r _ hr ⟨ns, a, b, c, List.getElem?_set_self l0, ha, hb⟩ (Same.set o 0 _)
  have at' : ∀ x, qv (o.set 0 (.ml x)) (.obj 0) = some x := fun x => qv_obj (List.getElem?_set_self l0)
  have ah' : ∀ x, hv (o.set 0 (.ml x)) (.obj 0) = some (0, x) := fun x => hv_obj (List.getElem?_set_self l0)
  have md : ∀ (o : Om) (x : Int), opMod o (.int x) (.int m) = some (.int (x % m)) := fun o x => if_pos h0
  have dv : ∀ (o : Om) (x : Int), opDiv o (.int x) (.int m) = some (.int (x / m)) := fun o x => if_pos ⟨h0, h1⟩
  have s3 : ∀ (a b c d v : D), setD [a, b, c, d] 3 v = some [a, b, c, v] := fun _ _ _ _ _ => rfl
  have s1 : ∀ (a b c d v : D), setD [a, b, c, d] 1 v = some [a, v, c, d] := fun _ _ _ _ _ => rfl
  have s2 : ∀ (a b c d v : D), setD [a, b, c, d] 2 v = some [a, b, v, d] := fun _ _ _ _ _ => rfl
  have pw : ∀ o : Om, opPow o (.int 10) (.int 18) = some (.int 1000000000000000000) := fun _ => rfl
  have ml1 : ∀ (o : Om) (x : Int), opMul o (.int x) (.int 48271) = some (.int (x * 48271)) := fun o x => if_pos (.inr (by decide))
  have md2 : ∀ (o : Om) (x : Int), opMod o (.int x) (.int 2147483647) = some (.int (x % 2147483647)) := fun o x => by show (if (0 : Int) < 2147483647 then some (D.int (x % 2147483647)) else none) = _; exact if_pos (by decide)
  have dv7 : ∀ (o : Om) (x : Int), opDiv o (.int x) (.int 7) = some (.int (x / 7)) := fun o x => by show (if (0 : Int) < 7 ∧ (7 : Int) < 1073741824 then some (D.int (x / 7)) else none) = _; exact if_pos (by decide)
  refine def_V ?_
  unfold den_l_next
  simp [qv_obj ho, hv_obj ho]
  by_cases q : 0 < rest
  · simp [q, qv_obj ho, hv_obj ho, md, dv, s3]
    exact fin _ _ _ _ hp hm
  · simp [q, qv_obj ho, hv_obj ho, s1, at']
    by_cases q2 : pos + 1 ≤ ns.length
    · have ⟨c, e'⟩ : ∃ c : Int, L2.atI (ns.map D.int) pos = some (.int c) := by
        rw [atI_pos _ hp, List.getElem?_map, List.getElem?_eq_getElem (by omega)]
        exact ⟨_, rfl⟩
      have e : L2.atI (ns.map D.int) (pos + 1 - 1) = some (.int c) := by
        rw [← e']; congr 1; omega
      simp [q2, at', e, e', pw]
      by_cases q3 : 1000000000000000000 ≤ c
      · simp [q3, dv, at', ah', s3, md]
        exact fin _ _ _ _ (by omega) hm
      · simp [q3, at', ah', s3, md]
        exact fin _ _ _ _ (by omega) hm
    · simp [q2, at', ah', ml1, md2, s2, dv7, md]
      exact fin _ _ _ _ (by omega) (Int.emod_nonneg _ (by decide))
theorem dice_eq (ns : List Int) (hn : ns.length ≤ 1000) : ∃ x, phi_l_dice [.scr ns] [] = .ok (.obj 0) [x] ∧ Dc [x] := by
  have key : V (fun d o => d = .obj 0 ∧ ∃ x, o = [x] ∧ Dc [x]) (fun _ _ => False) (phi_l_dice [.scr ns] []) := by
    have md2 : ∀ (o : Om) (x : Int), opMod o (.int x) (.int 2147483647) = some (.int (x % 2147483647)) := fun o x => by show (if (0 : Int) < 2147483647 then some (D.int (x % 2147483647)) else none) = _; exact if_pos (by decide)
    have ml1 : ∀ (o : Om) (x : Int), opMul o (.int x) (.int 48271) = some (.int (x * 48271)) := fun o x => if_pos (.inr (by decide))
    have ml2 : ∀ (o : Om) (x : Int), opMul o (.int x) (.int 69621) = some (.int (x * 69621)) := fun o x => if_pos (.inr (by decide))
    refine def_V ?_
    unfold den_l_dice
    simp
    refine W_scr ns (fun r ρ o => o = [] ∧ ∃ m a, 0 ≤ m ∧ ρ = [.d (.scr ns), .d (.int m), a]) ⟨rfl, 0, _, Int.le_refl _, rfl⟩ ?_ ?_
    · rintro x r ρ o ⟨rfl, m, a, hm, rfl⟩
      refine ⟨_, rfl, ?_⟩
      simp [md2, ml1, ml2]
      exact Int.emod_nonneg _ (by decide)
    · rintro ρ o ⟨rfl, m, a, hm, rfl⟩
      have m1 : opMul [] (.int m) (.int 1) = some (.int (m * 1)) := if_pos (.inr (by decide))
      have m0 : opMul [] (.int m) (.int 0) = some (.int (m * 0)) := if_pos (.inr (by decide))
      by_cases q : 2 < ns.length
      · have q' : (2 : Int) < ns.length := by omega
        simp [q', m1]
        exact ⟨ns, 0, m, 0, rfl, Int.le_refl _, hm⟩
      · have q' : ¬ (2 : Int) < ns.length := by omega
        simp [q', m0]
        exact ⟨ns, 0, 0, 0, rfl, Int.le_refl _, Int.le_refl _⟩
  cases q : phi_l_dice [.scr ns] [] with
  | ok d o1 =>
    rw [q] at key
    obtain ⟨rfl, x, rfl, hc⟩ := key
    exact ⟨x, rfl, hc⟩
  | exc x o1 => rw [q] at key; exact key.elim
  | bad => rw [q] at key; exact key.elim
/-- a draw, as a statement of its own -/
def Nx (o o' : Om) : Prop := Dc o' ∧ Same (· = 0) o o'
theorem window_V {o : Om} {far : Int} {Q : D → Om → Prop} {X : Xc → Om → Prop} (h : Dc o) (h0 : 0 ≤ far) (h1 : far ≤ 1000) (k : ∀ (e l : Int) o', 0 ≤ e → e ≤ l → l ≤ far → Dc o' → Same (· = 0) o o' → Q (.tup [.int e, .int l]) o') :
    V Q X (phi_l_window [.obj 0, .int far] o) := by
  refine def_V ?_
  unfold den_l_window
  simp
  refine next_V h (by omega) (by omega) fun e o1 he d1 s1 => ?_
  refine next_V d1 (by omega) (by omega) fun a o2 ha d2 s2 => ?_
  refine next_V d2 (by omega) (by omega) fun c o3 hc d3 s3 => ?_
  refine next_V d3 (by omega) (by omega) fun i o4 hi d4 s4 => ?_
  have ⟨w, hw, hw0⟩ : ∃ w : Int, L2.atI [D.int 0, D.int (1 + a), D.int c] (i : Int) = some (.int w) ∧ 0 ≤ w := by
    rw [atI_nat]
    match i, hi with
    | 0, _ => exact ⟨0, rfl, Int.le_refl _⟩
    | 1, _ => exact ⟨1 + a, rfl, by omega⟩
    | 2, _ => exact ⟨c, rfl, by omega⟩
    | n + 3, hi => omega
  simp [hw]
  exact k e _ o4 (by omega) (by omega) (by omega) d4 (s1.trans (s2.trans (s3.trans s4)))
end KR
set_option Elab.async false
set_option linter.all false
set_option maxRecDepth 100000
set_option maxHeartbeats 2000000
namespace KR
open PySem L2
/-! ### the dice at any handle -/
def Dch (h : Nat) (o : Om) : Prop := ∃ ns pos mixed rest, o[h]? = some (.ml [.scr ns, .int pos, .int mixed, .int rest]) ∧ 0 ≤ pos ∧ 0 ≤ mixed
theorem Dch.same {z : Nat} {p : Nat → Prop} {o o' : Om} (h : Dch z o) (s : Same p o o') (hp : ¬ p z) : Dch z o' := by
  obtain ⟨ns, pos, mixed, rest, h0, h1, h2⟩ := h
  exact ⟨ns, pos, mixed, rest, (s.2 z (List.getElem?_eq_some_iff.mp h0).1 hp).trans h0, h1, h2⟩
theorem next_h {z : Nat} {o : Om} {m : Int} {Q : D → Om → Prop} {X : Xc → Om → Prop} (h : Dch z o) (h0 : 0 < m) (h1 : m < 1073741824) (k : ∀ (r : Nat) o', (r : Int) < m → Dch z o' → Same (· = z) o o' → Q (.int r) o') : V Q X (phi_l_next [.obj z, .int m] o) := by
  obtain ⟨ns, pos, mixed, rest, ho, hp, hm⟩ := h
  have l0 : z < o.length := (List.getElem?_eq_some_iff.mp ho).1
  have mods : ∀ x : Int, ∃ r : Nat, x % m = (r : Int) ∧ (r : Int) < m := fun x => ⟨(x % m).toNat, by have := Int.emod_nonneg x (Int.ne_of_gt h0); omega, by have := Int.emod_nonneg x (Int.ne_of_gt h0); have := Int.emod_lt_of_pos x h0; omega⟩
  have fin : ∀ (x : Int) (a b c : Int), 0 ≤ a → 0 ≤ b → Q (.int (x % m)) (o.set z (.ml [.scr ns, .int a, .int b, .int c])) := fun x a b c ha hb => by
    obtain ⟨r, e, hr⟩ := mods x
    rw [e]
    exact k r _ hr ⟨ns, a, b, c, List.getElem?_set_self l0, ha, hb⟩ (Same.set o z _)
  have at' : ∀ x, qv (o.set z (.ml x)) (.obj z) = some x := fun x => qv_obj (List.getElem?_set_self l0)
  have ah' : ∀ x, hv (o.set z (.ml x)) (.obj z) = some (z, x) := fun x => hv_obj (List.getElem?_set_self l0)
  have md : ∀ (o : Om) (x : Int), opMod o (.int x) (.int m) = some (.int (x % m)) := fun o x => if_pos h0
  have dv : ∀ (o : Om) (x : Int), opDiv o (.int x) (.int m) = some (.int (x / m)) := fun o x => if_pos ⟨h0, h1⟩
  have s3 : ∀ (a b c d v : D), setD [a, b, c, d] 3 v = some [a, b, c, v] := fun _ _ _ _ _ => rfl
  have s1 : ∀ (a b c d v : D), setD [a, b, c, d] 1 v = some [a, v, c, d] := fun _ _ _ _ _ => rfl
  have s2 : ∀ (a b c d v : D), setD [a, b, c, d] 2 v = some [a, b, v, d] := fun _ _ _ _ _ => rfl
  have pw : ∀ o : Om, opPow o (.int 10) (.int 18) = some (.int 1000000000000000000) := fun _ => rfl
  have ml1 : ∀ (o : Om) (x : Int), opMul o (.int x) (.int 48271) = some (.int (x * 48271)) := fun o x => if_pos (.inr (by decide))
  have md2 : ∀ (o : Om) (x : Int), opMod o (.int x) (.int 2147483647) = some (.int (x % 2147483647)) := fun o x => by show (if (0 : Int) < 2147483647 then some (D.int (x % 2147483647)) else none) = _; exact if_pos (by decide)
  have dv7 : ∀ (o : Om) (x : Int), opDiv o (.int x) (.int 7) = some (.int (x / 7)) := fun o x => by show (if (0 : Int) < 7 ∧ (7 : Int) < 1073741824 then some (D.int (x / 7)) else none) = _; exact if_pos (by decide)
  refine def_V ?_
  unfold den_l_next
  simp [qv_obj ho, hv_obj ho]
  by_cases q : 0 < rest
  · simp [q, qv_obj ho, hv_obj ho, md, dv, s3]
    exact fin _ _ _ _ hp hm
  · simp [q, qv_obj ho, hv_obj ho, s1, at']
    by_cases q2 : pos + 1 ≤ ns.length
    · have ⟨c, e'⟩ : ∃ c : Int, L2.atI (ns.map D.int) pos = some (.int c) := by
        rw [atI_pos _ hp, List.getElem?_map, List.getElem?_eq_getElem (by omega)]
        exact ⟨_, rfl⟩
      have e : L2.atI (ns.map D.int) (pos + 1 - 1) = some (.int c) := by
        rw [← e']; congr 1; omega
      simp [q2, at', e, e', pw]
      by_cases q3 : 1000000000000000000 ≤ c
      · simp [q3, dv, at', ah', s3, md]
        exact fin _ _ _ _ (by omega) hm
      · simp [q3, at', ah', s3, md]
        exact fin _ _ _ _ (by omega) hm
    · simp [q2, at', ah', ml1, md2, s2, dv7, md]
      exact fin _ _ _ _ (by omega) (Int.emod_nonneg _ (by decide))
theorem dice_h (ns : List Int) (hn : ns.length ≤ 1000) (o0 : Om) : ∃ x, phi_l_dice [.scr ns] o0 = .ok (.obj o0.length) (o0 ++ [x]) ∧ Dch o0.length (o0 ++ [x]) := by
  have key : V (fun d o => d = .obj o0.length ∧ ∃ x, o = o0 ++ [x] ∧ Dch o0.length (o0 ++ [x])) (fun _ _ => False) (phi_l_dice [.scr ns] o0) := by
    have md2 : ∀ (o : Om) (x : Int), opMod o (.int x) (.int 2147483647) = some (.int (x % 2147483647)) := fun o x => by show (if (0 : Int) < 2147483647 then some (D.int (x % 2147483647)) else none) = _; exact if_pos (by decide)
    have ml1 : ∀ (o : Om) (x : Int), opMul o (.int x) (.int 48271) = some (.int (x * 48271)) := fun o x => if_pos (.inr (by decide))
    have ml2 : ∀ (o : Om) (x : Int), opMul o (.int x) (.int 69621) = some (.int (x * 69621)) := fun o x => if_pos (.inr (by decide))
    refine def_V ?_
    unfold den_l_dice
    simp
    refine W_scr ns (fun r ρ o => o = o0 ∧ ∃ m a, 0 ≤ m ∧ ρ = [.d (.scr ns), .d (.int m), a]) ⟨rfl, 0, _, Int.le_refl _, rfl⟩ ?_ ?_
    · rintro x r ρ o ⟨rfl, m, a, hm, rfl⟩
      refine ⟨_, rfl, ?_⟩
      simp [md2, ml1, ml2]
      exact Int.emod_nonneg _ (by decide)
    · rintro ρ o ⟨rfl, m, a, hm, rfl⟩
      have m1 : opMul o (.int m) (.int 1) = some (.int (m * 1)) := if_pos (.inr (by decide))
      have m0 : opMul o (.int m) (.int 0) = some (.int (m * 0)) := if_pos (.inr (by decide))
      by_cases q : 2 < ns.length
      · have q' : (2 : Int) < ns.length := by omega
        simp [q', m1]
        exact ⟨ns, 0, m, 0, by simp, Int.le_refl _, hm⟩
      · have q' : ¬ (2 : Int) < ns.length := by omega
        simp [q', m0]
        exact ⟨ns, 0, 0, 0, by simp, Int.le_refl _, Int.le_refl _⟩
  cases q : phi_l_dice [.scr ns] o0 with
  | ok d o1 =>
    rw [q] at key
    obtain ⟨rfl, x, rfl, hc⟩ := key
    exact ⟨x, rfl, hc⟩
  | exc x o1 => rw [q] at key; exact key.elim
  | bad => rw [q] at key; exact key.elim
theorem window_h {z : Nat} {o : Om} {far : Int} {Q : D → Om → Prop} {X : Xc → Om → Prop} (h : Dch z o) (h0 : 0 ≤ far) (h1 : far ≤ 1000) (k : ∀ (e l : Int) o', 0 ≤ e → e ≤ l → l ≤ far → Dch z o' → Same (· = z) o o' → Q (.tup [.int e, .int l]) o') :
    V Q X (phi_l_window [.obj z, .int far] o) := by
  refine def_V ?_
  unfold den_l_window
  simp
  refine next_h h (by omega) (by omega) fun e o1 he d1 s1 => ?_
  refine next_h d1 (by omega) (by omega) fun a o2 ha d2 s2 => ?_
  refine next_h d2 (by omega) (by omega) fun c o3 hc d3 s3 => ?_
  refine next_h d3 (by omega) (by omega) fun i o4 hi d4 s4 => ?_
  have ⟨w, hw, hw0⟩ : ∃ w : Int, L2.atI [D.int 0, D.int (1 + a), D.int c] (i : Int) = some (.int w) ∧ 0 ≤ w := by
    rw [atI_nat]
    match i, hi with
    | 0, _ => exact ⟨0, rfl, Int.le_refl _⟩
    | 1, _ => exact ⟨1 + a, rfl, by omega⟩
    | 2, _ => exact ⟨c, rfl, by omega⟩
    | n + 3, hi => omega
  simp [hw]
  exact k e _ o4 (by omega) (by omega) (by omega) d4 (s1.trans (s2.trans (s3.trans s4)))
end KR
set_option Elab.async false
set_option linter.all false
set_option maxRecDepth 100000
set_option maxHeartbeats 2000000
namespace KR
open PySem L2
def ins {α : Type} (rs : List α) (n : Nat) (r : α) : List α := rs.take n ++ [r] ++ rs.drop n
def eTk (rs : List Row) (n : Nat) : D := .lst ((rs.take n).map eRow)
def eDr (rs : List Row) (n : Nat) : D := .lst ((rs.drop n).map eRow)
def eTk1 (rs : List Row) (n : Nat) (r : Row) : D := .lst ((rs.take n).map eRow ++ [eRow r])
theorem sl_to (o : Om) (rs : List Row) (n : Nat) (hn : n ≤ rs.length) : opSl o (eRows rs) none (some (n : Int)) = some (eTk rs n) := by
  have c1 : cutD (rs.map eRow) none (some (n : Int)) = (rs.take n).map eRow := by rw [cut_to _ (by omega) (by simpa using hn), Int.toNat_natCast, List.map_take]
  unfold eTk; rw [← c1]; rfl
theorem sl_from (o : Om) (rs : List Row) (n : Nat) (hn : n ≤ rs.length) : opSl o (eRows rs) (some (n : Int)) none = some (eDr rs n) := by
  have c1 : cutD (rs.map eRow) (some (n : Int)) none = (rs.drop n).map eRow := by rw [cut_from _ (by omega) (by simpa using hn), Int.toNat_natCast, List.map_drop]
  unfold eDr; rw [← c1]; rfl
theorem ad_1 (o : Om) (rs : List Row) (n : Nat) (r : Row) (h : rs.length ≤ 1000) : opAdd o (eTk rs n) (.lst [eRow r]) = some (eTk1 rs n r) := op_addL (by simp; omega)
theorem ad_2 (o : Om) (rs : List Row) (n : Nat) (r : Row) (h : rs.length ≤ 1000) : opAdd o (eTk1 rs n r) (eDr rs n) = some (eRows (ins rs n r)) := by
  unfold eTk1 eDr
  rw [op_addL (by simp; omega)]
  simp [eRows, ins]
theorem ins_len {α : Type} (rs : List α) (n : Nat) (r : α) : (ins rs n r).length = rs.length + 1 := by
  unfold ins
  simp
  omega
theorem mem_ins {α : Type} {rs : List α} {n : Nat} {r x : α} (h : x ∈ ins rs n r) : x = r ∨ x ∈ rs := by
  unfold ins at h
  rcases List.mem_append.mp h with h | h
  · rcases List.mem_append.mp h with h | h
    · exact .inr (List.mem_of_mem_take h)
    · exact .inl (List.mem_singleton.mp h)
  · exact .inr (List.mem_of_mem_drop h)
structure Rows (far : Int) (ws : List (Option Int)) (rs : List Row) : Prop where
  fit : Fit rs
  ok : ∀ r ∈ rs, 0 ≤ r.e ∧ r.e ≤ r.l ∧ r.l ≤ far
  w : ∀ r ∈ rs, r.w ∈ ws
theorem Rows.nil (far : Int) (ws : List (Option Int)) : Rows far ws [] := ⟨fun p hp => by simp at hp, fun _ h => (nomatch h), fun _ h => (nomatch h)⟩
theorem row_V {o : Om} {most far : Int} {ws : List (Option Int)} {Q : D → Om → Prop} {X : Xc → Om → Prop} (h : Dc o) (hm : 0 ≤ most ∧ most ≤ 100) (hf : 0 ≤ far ∧ far ≤ 999) (hw : ws ≠ []) (hwl : ws.length ≤ 1000)
    (k : ∀ rs o', rs.length ≤ most.toNat → Rows far ws rs → Dc o' → Same (· = 0) o o' → Q (eRows rs) o') : V Q X (phi_l_row [.obj 0, .int most, .int far, .lst (ws.map eO)] o) := by
  refine def_V ?_
  unfold den_l_row
  have hwp : 0 < ws.length := List.length_pos_iff.mpr hw
  simp
  refine next_V h (by omega) (by omega) fun n o1 hn d1 s1 => ?_
  have n1 : (-100000 : Int) ≤ n := by omega
  have n2 : (n : Int) ≤ 100000 := by omega
  simp [n1, n2]
  refine W_rng0 n (fun i ρ o2 => Dc o2 ∧ Same (· = 0) o o2 ∧ ∃ rs a b c, rs.length ≤ i ∧ Rows far ws rs ∧ ρ = [.d (.obj 0), .d (.int most), .d (.int far), .d (.lst (ws.map eO)), .d (eRows rs), a, b, c]) ⟨d1, s1, [], _, _, _, Nat.le_refl _, Rows.nil _ _, rfl⟩ ?_ ?_
  · rintro i ρ o2 hi ⟨d2, s2, rs, a, b, c, hl, hr, rfl⟩
    refine ⟨_, rfl, ?_⟩
    have hrl : rs.length ≤ 1000 := by omega
    simp
    refine next_V d2 (by omega) (by omega) fun j o3 hj d3 s3 => ?_
    have hj' : j < ws.length := by omega
    simp [atI_nat, List.getElem?_eq_getElem hj']
    refine window_V d3 hf.1 (by omega) fun e l o4 he hel hl4 d4 s4 => ?_
    simp
    refine next_V d4 (by omega) (by omega) fun at_ o5 ha d5 s5 => ?_
    have ha' : at_ ≤ rs.length := by omega
    have er : D.tup [eO ws[j], .int e, .int l] = eRow ⟨ws[j], e, l⟩ := rfl
    rw [er]
    obtain ⟨d, f1, f2, f3⟩ := fits_fit (ins rs at_ ⟨ws[j], e, l⟩) o5 (by rw [ins_len]; omega)
    simp [sl_to o5 rs at_ ha', sl_from o5 rs at_ ha', ad_1 o5 rs at_ _ hrl, ad_2 o5 rs at_ _ hrl, f1]
    have s6 : Same (· = 0) o o5 := s2.trans (s3.trans (s4.trans s5))
    rcases f3 with rfl | ⟨z, rfl⟩
    · have hfit := f2.1 rfl
      simp [isN, sl_to o5 rs at_ ha', sl_from o5 rs at_ ha', ad_1 o5 rs at_ _ hrl, ad_2 o5 rs at_ _ hrl]
      refine ⟨d5, s6, ins rs at_ ⟨ws[j], e, l⟩, by rw [ins_len]; omega, ⟨hfit, fun r hr' => ?_, fun r hr' => ?_⟩, rfl⟩
      · rcases mem_ins hr' with q | q
        · subst q; exact ⟨he, hel, hl4⟩
        · exact hr.ok r q
      · rcases mem_ins hr' with q | q
        · subst q; exact List.getElem_mem hj'
        · exact hr.w r q
    · simp [isN]
      exact ⟨d5, s6, rs, by omega, hr, rfl⟩
  · rintro ρ o2 ⟨d2, s2, rs, a, b, c, hl, hr, rfl⟩
    simp
    exact k rs o2 (by omega) hr d2 s2
end KR
set_option Elab.async false
set_option linter.all false
set_option maxRecDepth 100000
set_option maxHeartbeats 2000000
namespace KR
open PySem L2
def eKey (k : Key) : D := .tup [eTs k.opens, .bl k.plain, eRows k.rows]
def somes (n : Nat) : List (Option Int) := (List.range n).map fun p : Nat => some (p : Int)
structure KeyOk (persons : Nat) (far : Int) (nr : Nat) (k : Key) : Prop where
  inc : k.opens.Pairwise (· < ·)
  rng : ∀ x ∈ k.opens, 0 ≤ x ∧ x ≤ 9
  len : k.opens.length ≤ 10
  rl : k.rows.length ≤ nr
  fit : Fit k.rows
  ok : ∀ r ∈ k.rows, 0 ≤ r.e ∧ r.e ≤ r.l ∧ r.l ≤ far
  who : ∀ r ∈ k.rows, ∀ i, r.w = some i → 0 ≤ i ∧ i < persons
structure DoorOk (far : Int) (nr : Nat) (rs : List Row) : Prop where
  rl : rs.length ≤ nr
  fit : Fit rs
  ok : ∀ r ∈ rs, 0 ≤ r.e ∧ r.e ≤ r.l ∧ r.l ≤ far
  kind : ∀ r ∈ rs, ∃ k : Int, r.w = some k ∧ 0 ≤ k ∧ k ≤ 9
structure CaseOk (persons : Nat) (far : Int) (nk nr nd : Nat) (keys : List Key) (doors : List (List Row)) : Prop where
  kl : 1 ≤ keys.length ∧ keys.length ≤ nk
  dl : 1 ≤ doors.length ∧ doors.length ≤ nd
  ks : ∀ k ∈ keys, KeyOk persons far nr k
  ds : ∀ rs ∈ doors, DoorOk far nr rs
def eCase (persons : Nat) (keys : List Key) (doors : List (List Row)) : D := .tup [.int persons, .lst (keys.map eKey), .lst (doors.map eRows)]
theorem somes_eO (n : Nat) : (somes n).map eO = (List.range n).map eN := by
  unfold somes
  rw [List.map_map]; rfl
theorem sub_range {n : Nat} {sel : List Nat} (h : sel.Sublist (List.range n)) (hn : n ≤ 10) : (sel.map fun p : Nat => (p : Int)).Pairwise (· < ·) ∧ (∀ x ∈ sel.map fun p : Nat => (p : Int), 0 ≤ x ∧ x ≤ 9) ∧ (sel.map fun p : Nat => (p : Int)).length ≤ 10 := by
  refine ⟨?_, fun x hx => ?_, ?_⟩
  · rw [List.pairwise_map]
    exact (List.pairwise_lt_range.sublist h).imp fun q => by omega
  · obtain ⟨p, hp, rfl⟩ := List.mem_map.mp hx
    have := List.mem_range.mp (h.subset hp)
    omega
  · rw [List.length_map]
    have := h.length_le
    rw [List.length_range] at this
    omega
theorem case_V {o : Om} {persons nk nr nd : Nat} {far : Int} {Q : D → Om → Prop} {X : Xc → Om → Prop} (h : Dc o) (hp : 1 ≤ persons ∧ persons ≤ 8) (h1 : 1 ≤ nk ∧ nk ≤ 6) (h2 : nr ≤ 8) (h3 : 1 ≤ nd ∧ nd ≤ 4) (hf : 0 ≤ far ∧ far ≤ 999)
    (k : ∀ keys doors o', CaseOk persons far nk nr nd keys doors → Dc o' → Same (· = 0) o o' → Q (eCase persons keys doors) o') :
    V Q X (phi_l_case [.obj 0, .int persons, .tup [.int nk, .int nr, .int nd], .int far] o) := by
  refine def_V ?_
  unfold den_l_case
  simp [lrg o persons (by omega)]
  refine next_V h (by omega) (by omega) fun r o1 hr d1 s1 => ?_
  have mul : opMul o1 (.lst [.non]) (.int r) = some (.lst (List.replicate r [D.non]).flatten) := by
    show (if -1000 ≤ (r : Int) ∧ (r : Int) ≤ 1000 ∧ ([D.non] : List D).length ≤ 1000 then some (D.lst (List.replicate (r : Int).toNat [D.non]).flatten) else none) = _
    rw [if_pos ⟨by omega, by omega, by decide⟩, Int.toNat_natCast]
  have ppl : ((List.range persons).map eN) ++ (List.replicate r [D.non]).flatten = (somes persons ++ List.replicate r none).map eO := by
    rw [List.map_append, somes_eO]; simp [eO]
  have ad : opAdd o1 (.lst ((List.range persons).map eN)) (.lst (List.replicate r [D.non]).flatten) = some (.lst ((somes persons ++ List.replicate r none).map eO)) := by
    rw [op_addL (by simp; omega), ppl]
  have hr2 : r ≤ 1 := by omega
  have wl : (somes persons ++ List.replicate r none).length ≤ 1000 := by simp [somes]; omega
  have wn : (somes persons ++ List.replicate r none) ≠ [] := by
    intro e
    have := congrArg List.length e
    simp [somes] at this
    omega
  have wm : ∀ w ∈ somes persons ++ List.replicate r (none : Option Int), ∀ i, w = some i → 0 ≤ i ∧ i < persons := by
    intro w hw i e
    subst e
    rcases List.mem_append.mp hw with q | q
    · unfold somes at q
      obtain ⟨p, hp, e⟩ := List.mem_map.mp q
      have := List.mem_range.mp hp
      cases e
      omega
    · have := (List.mem_replicate.mp q).2; cases this
  generalize hws : somes persons ++ List.replicate r (none : Option Int) = ws at ad wl wn wm
  clear ppl
  generalize (List.replicate r [D.non]).flatten = LL at mul ad
  simp [mul, ad]
  refine next_V d1 (by omega) (by omega) fun ki o2 hki d2 s2 => ?_
  have ⟨K, hK, hK0, hK1⟩ : ∃ K : Nat, L2.atI [D.int 4, D.int 4, D.int 10] (ki : Int) = some (.int (K : Int)) ∧ 1 ≤ K ∧ K ≤ 10 := by
    rw [atI_nat]
    match ki, hki with
    | 0, _ => exact ⟨4, rfl, by decide, by decide⟩
    | 1, _ => exact ⟨4, rfl, by decide, by decide⟩
    | 2, _ => exact ⟨10, rfl, by decide, by decide⟩
    | n + 3, hi => omega
  simp [hK, lrg o2 K (by omega)]
  refine next_V d2 (by omega) (by omega) fun n o3 hn d3 s3 => ?_
  have n1 : (-100000 : Int) ≤ 1 + n := by omega
  have n2 : (1 : Int) + n ≤ 100000 := by omega
  have n3 : ((1 : Int) + n).toNat = 1 + n := by omega
  simp [n1, n2, n3]
  refine W_rng0 (1 + n) (fun i ρ o4 => Dc o4 ∧ Same (· = 0) o o4 ∧ ∃ (keys : List Key) (a b c d : EV), keys.length = i ∧ (∀ k ∈ keys, KeyOk persons far nr k) ∧
    ρ = [.d (.obj 0), .d (.int persons), .d (.tup [.int nk, .int nr, .int nd]), .d (.int far), .d (.lst (ws.map eO)), .d (.lst ((List.range K).map eN)), .own (keys.map eKey), a, b, c, d]) ?_ ?_ ?_
  · exact ⟨d3, s1.trans (s2.trans s3), [], _, _, _, _, rfl, fun _ z => (nomatch z), rfl⟩
  · rintro i ρ o4 hi ⟨d4, s4, keys, a, b, c, d, hkl, hks, rfl⟩
    refine ⟨_, rfl, ?_⟩
    simp
    refine V_clst eN (List.range K) (by simp; omega) (fun r acc o5 => Dc o5 ∧ Same (· = 0) o o5 ∧ ∃ pre sel, pre ++ r = List.range K ∧ sel.Sublist pre ∧ acc = sel.map eN) ⟨d4, s4, [], [], rfl, List.Sublist.refl _, rfl⟩ ?_ ?_
    · rintro x r acc o5 ⟨d5, s5, pre, sel, hpre, hsub, rfl⟩
      refine ⟨_, rfl, ?_⟩
      simp [wipeE]
      refine next_V d5 (by omega) (by omega) fun z o6 hz d6 s6 => ?_
      simp [eq_ints]
      by_cases q : z = 0
      · simp [q]
        exact ⟨d6, s5.trans s6, pre ++ [x], by simpa using hpre, sel ++ [x], hsub.append (List.Sublist.refl _), by simp⟩
      · simp [q]
        exact ⟨d6, s5.trans s6, pre ++ [x], by simpa using hpre, sel, hsub.trans (List.sublist_append_left _ _), rfl⟩
    · rintro acc o5 ⟨d5, s5, pre, sel, hpre, hsub, rfl⟩
      rw [List.append_nil] at hpre
      subst hpre
      obtain ⟨q1, q2, q3⟩ := sub_range hsub hK1
      have et : ∀ o : Om, opTuple o [.lst (sel.map eN)] = some (eTs (sel.map fun p : Nat => (p : Int))) := fun o => by
        show some (D.tup (sel.map eN)) = _
        rw [map_eN]; rfl
      simp [et]
      refine next_V d5 (by omega) (by omega) fun z o6 hz d6 s6 => ?_
      simp [eq_ints]
      refine row_V d6 (by omega) hf wn wl fun rs o7 hrl hrs d7 s7 => ?_
      have kl2 : keys.length < 100000 := by omega
      simp [kl2]
      refine ⟨d7, s5.trans (s6.trans s7), keys ++ [⟨sel.map fun p : Nat => (p : Int), (z : Int) == 2, rs⟩], by simp [hkl], fun k hk => ?_, ?_⟩
      · rcases List.mem_append.mp hk with q | q
        · exact hks k q
        · rw [List.mem_singleton.mp q]
          exact ⟨q1, q2, q3, by simpa using hrl, hrs.fit, hrs.ok, fun r hr i e => wm r.w (hrs.w r hr) i e⟩
      · simp [eKey]
  · rintro ρ o4 ⟨d4, s4, keys, a, b, c, d, hkl, hks, rfl⟩
    simp
    refine next_V d4 (by omega) (by omega) fun n2_ o5 hn2 d5 s5 => ?_
    have m1 : (-100000 : Int) ≤ 1 + n2_ := by omega
    have m2 : (1 : Int) + n2_ ≤ 100000 := by omega
    have m3 : ((1 : Int) + n2_).toNat = 1 + n2_ := by omega
    have sw : (somes K).map eO = (List.range K).map eN := somes_eO K
    simp [m1, m2, m3]
    refine V_crng (1 + n2_) (by omega) (fun r acc o6 => Dc o6 ∧ Same (· = 0) o o6 ∧ ∃ ds : List (List Row), ds.length + r.length = 1 + n2_ ∧ (∀ rs ∈ ds, DoorOk far nr rs) ∧ acc = ds.map eRows) ⟨d5, s4.trans s5, [], by simp, fun _ z => (nomatch z), rfl⟩ ?_ ?_
    · rintro x r acc o6 ⟨d6, s6, ds, hl, hds, rfl⟩
      refine ⟨_, rfl, ?_⟩
      simp [wipeE, ← sw]
      refine row_V d6 (by omega) hf (by intro e; have := congrArg List.length e; simp [somes] at this; omega) (by simp [somes]; omega) fun rs o7 hrl hrs d7 s7 => ?_
      refine ⟨d7, s6.trans s7, ds ++ [rs], by simp at hl ⊢; omega, fun q hq => ?_, by simp⟩
      rcases List.mem_append.mp hq with z | z
      · exact hds q z
      · rw [List.mem_singleton.mp z]
        refine ⟨by simpa using hrl, hrs.fit, hrs.ok, fun r hr => ?_⟩
        have := hrs.w r hr
        unfold somes at this
        obtain ⟨p, hp, e⟩ := List.mem_map.mp this
        have := List.mem_range.mp hp
        exact ⟨p, e.symm, by omega, by omega⟩
    · rintro acc o6 ⟨d6, s6, ds, hl, hds, rfl⟩
      simp at hl
      exact k keys ds o6 ⟨by omega, by omega, hks, hds⟩ d6 s6
end KR
set_option Elab.async false
set_option linter.all false
set_option maxRecDepth 100000
set_option maxHeartbeats 2000000
namespace KR
open PySem L2
theorem Fit.pre {a b : List Row} (h : Fit (a ++ b)) : Fit a := fun p hp => by
  have := h p (by simp; omega)
  rw [List.getElem?_append_left hp] at this
  have e : soon (a ++ b) (p + 1) = soon a (p + 1) := by
    unfold soon
    rw [List.take_append_of_le_length (by omega)]
  rw [e] at this
  exact this
theorem set_last {α : Type} (l : List α) (x y : α) : (l ++ [x]).set l.length y = l ++ [y] := by simp
theorem at_last {α : Type} (l : List α) (x : α) : (l ++ [x])[l.length]? = some x := by simp
theorem ins_end {α : Type} (l : List α) (x : α) : l.take l.length ++ [x] ++ l.drop l.length = l ++ [x] := by simp
def inB (b : Nat) (i : Nat) : Prop := b ≤ i ∧ i < b + 5
theorem book_V {o : Om} {persons nk nr nd : Nat} {far : Int} {keys : List Key} {doors : List (List Row)} {Q : D → Om → Prop} {X : Xc → Om → Prop} (hc : CaseOk persons far nk nr nd keys doors) (hp : 1 ≤ persons ∧ persons ≤ 8) (h1 : nk ≤ 6) (h2 : nr ≤ 8) (h3 : nd ≤ 4) (hf : far ≤ 999)
    (k : ∀ o', BkAt o' o.length ⟨persons, doors, keys⟩ → Same (fun _ => False) o o' → Q (.obj o.length) o') : V Q X (phi_l_book [eCase persons keys doors] o) := by
  have hk6 := hc.kl
  have hd4 := hc.dl
  refine def_V ?_
  unfold den_l_book
  have l0 : (List.map eRows doors).length = doors.length := by simp
  have mk := init_eq o persons doors.length hp (by omega)
  have bk0 := bkAt_new o ⟨persons, List.replicate doors.length [], []⟩
  have sm0 : Same (inB o.length) o (o ++ bkO o.length ⟨persons, List.replicate doors.length [], []⟩) := Same.app _ _ _
  generalize hb : o.length = b at *
  generalize o ++ bkO b ⟨persons, List.replicate doors.length [], []⟩ = o1 at mk bk0 sm0
  simp [eCase, hb, mk]
  refine W_lst eKey keys (fun r ρ o2 => ∃ done, done ++ r = keys ∧ BkAt o2 b ⟨persons, List.replicate doors.length [], done⟩ ∧ Same (inB b) o o2 ∧ ∃ (a5 a6 a7 a8 a9 a10 a11 a12 a13 : EV),
    ρ = [.d (eCase persons keys doors), .d (.int persons), .d (.lst (keys.map eKey)), .d (.lst (doors.map eRows)), .d (.obj b), a5, a6, a7, a8, a9, a10, a11, a12, a13]) ⟨[], rfl, bk0, sm0, _, _, _, _, _, _, _, _, _, rfl⟩ ?_ ?_
  · rintro x r ρ o2 ⟨done, hdone, hB, hS, a5, a6, a7, a8, a9, a10, a11, a12, a13, rfl⟩
    have hx : x ∈ keys := by rw [← hdone]; simp
    have hxk := hc.ks x hx
    have hlen : done.length + (r.length + 1) = keys.length := by rw [← hdone]; simp
    refine ⟨_, by simp [eKey]; rfl, ?_⟩
    obtain ⟨o3, c1, c2, c3⟩ := cut_eq hB (by show done.length < 6; omega) x.opens x.plain hxk.inc hxk.len hxk.rng
    simp [hB.fv, c1]
    refine W_lst eRow x.rows (fun r2 ρ o4 => ∃ pre, pre ++ r2 = x.rows ∧ BkAt o4 b ⟨persons, List.replicate doors.length [], done ++ [⟨x.opens, x.plain, pre⟩]⟩ ∧ Same (inB b) o o4 ∧ ∃ (a9 a10 a11 a12 a13 : EV),
      ρ = [.d (eCase persons keys doors), .d (.int persons), .d (.lst (keys.map eKey)), .d (.lst (doors.map eRows)), .d (.obj b), .d (eTs x.opens), .d (.bl x.plain), .d (eRows x.rows), .d (.int done.length), a9, a10, a11, a12, a13]) ?_ ?_ ?_
    · exact ⟨[], rfl, c2, hS.trans c3, _, _, _, _, _, rfl⟩
    · rintro y r2 ρ o4 ⟨pre, hpre, hB4, hS4, a9, a10, a11, a12, a13, rfl⟩
      have hy : y ∈ x.rows := by rw [← hpre]; simp
      have hpl : pre.length + (r2.length + 1) = x.rows.length := by rw [← hpre]; simp
      have hrl := hxk.rl
      refine ⟨_, by simp [eRow]; rfl, ?_⟩
      have en := entries_eq hB4 done.length ⟨x.opens, x.plain, pre⟩ (at_last _ _)
      have hok := hxk.ok y hy
      obtain ⟨o5, e1, e2, e3⟩ := hand_eq hB4 done.length ⟨x.opens, x.plain, pre⟩ (at_last _ _) pre.length (Nat.le_refl _) (by show pre.length < 8; omega) y (hxk.who y hy) ⟨hok.1, hok.2.1, by omega⟩ (by
        show Fit (pre.take pre.length ++ [y] ++ pre.drop pre.length)
        rw [ins_end]
        have := hxk.fit
        rw [← hpre] at this
        have e : pre ++ y :: r2 = (pre ++ [y]) ++ r2 := by simp
        rw [e] at this
        exact this.pre)
      simp [hB4.fv, en, e1]
      refine ⟨pre ++ [y], by simpa using hpre, ?_, hS4.trans e3⟩
      simp only [setKey, set_last, ins_end] at e2
      exact e2
    · rintro ρ o4 ⟨pre, hpre, hB4, hS4, a9, a10, a11, a12, a13, rfl⟩
      rw [List.append_nil] at hpre
      subst hpre
      exact ⟨done ++ [x], by simpa using hdone, hB4, hS4, _, _, _, _, _, _, _, _, _, rfl⟩
  · rintro ρ o2 ⟨done, hdone, hB, hS, a5, a6, a7, a8, a9, a10, a11, a12, a13, rfl⟩
    rw [List.append_nil] at hdone
    subst hdone
    have n1 : (-100000 : Int) ≤ doors.length := by omega
    have n2 : (doors.length : Int) ≤ 100000 := by omega
    simp [n1, n2]
    refine W_rng0 doors.length (fun i ρ o3 => ∃ D, D.length = doors.length ∧ (∀ j, j < i → D[j]? = doors[j]?) ∧ (∀ j, i ≤ j → j < doors.length → D[j]? = some []) ∧ BkAt o3 b ⟨persons, D, done⟩ ∧ Same (inB b) o o3 ∧ ∃ (a5 a6 a7 a8 a9 a10 a11 a12 a13 : EV),
      ρ = [.d (eCase persons done doors), .d (.int persons), .d (.lst (done.map eKey)), .d (.lst (doors.map eRows)), .d (.obj b), a5, a6, a7, a8, a9, a10, a11, a12, a13]) ?_ ?_ ?_
    · exact ⟨_, by simp, fun j hj => by omega, fun j _ hj => by rw [List.getElem?_replicate, if_pos hj], hB, hS, _, _, _, _, _, _, _, _, _, rfl⟩
    · rintro i ρ o3 hi ⟨D, hDl, hD1, hD2, hB3, hS3, a5, a6, a7, a8, a9, a10, a11, a12, a13, rfl⟩
      refine ⟨_, rfl, ?_⟩
      have hdo := hc.ds doors[i] (List.getElem_mem hi)
      simp [atI_nat, List.getElem?_eq_getElem hi]
      refine W_lst eRow doors[i] (fun r2 ρ o4 => ∃ pre D, pre ++ r2 = doors[i] ∧ D.length = doors.length ∧ (∀ j, j < i → D[j]? = doors[j]?) ∧ (∀ j, i < j → j < doors.length → D[j]? = some []) ∧ D[i]? = some pre ∧ BkAt o4 b ⟨persons, D, done⟩ ∧ Same (inB b) o o4 ∧ ∃ (a5 a6 a7 a8 a9 a10 a11 a13 : EV),
        ρ = [.d (eCase persons done doors), .d (.int persons), .d (.lst (done.map eKey)), .d (.lst (doors.map eRows)), .d (.obj b), a5, a6, a7, a8, a9, a10, a11, .d (.int i), a13]) ?_ ?_ ?_
      · exact ⟨[], D, rfl, hDl, hD1, fun j h1 h2 => hD2 j (by omega) h2, hD2 i (Nat.le_refl _) hi, hB3, hS3, _, _, _, _, _, _, _, _, rfl⟩
      · rintro y r2 ρ o4 ⟨pre, D, hpre, hDl, hD1, hD2, hDi, hB4, hS4, a5, a6, a7, a8, a9, a10, a11, a13, rfl⟩
        have hy : y ∈ doors[i] := by rw [← hpre]; simp
        have hpl : pre.length + (r2.length + 1) = doors[i].length := by rw [← hpre]; simp
        have hrl := hdo.rl
        obtain ⟨kk, hkk, hk0, hk9⟩ := hdo.kind y hy
        refine ⟨_, by simp [eRow]; rfl, ?_⟩
        have en := fitted_eq hB4 i pre hDi
        have hok := hdo.ok y hy
        obtain ⟨o5, e1, e2, e3⟩ := fit_eq hB4 i pre hDi pre.length (Nat.le_refl _) (by omega) y kk hkk ⟨hk0, hk9⟩ ⟨hok.1, hok.2.1, by omega⟩ (by
          rw [ins_end]
          have := hdo.fit
          rw [← hpre] at this
          have e : pre ++ y :: r2 = (pre ++ [y]) ++ r2 := by simp
          rw [e] at this
          exact this.pre)
        simp [hkk, eO, hB4.fv, en, e1]
        refine ⟨pre ++ [y], by simpa using hpre, D.set i (pre ++ [y]), by simpa using hDl, fun j hj => ?_, fun j h1 h2 => ?_, ?_, ?_, hS4.trans e3⟩
        · rw [List.getElem?_set_ne (by omega)]; exact hD1 j hj
        · rw [List.getElem?_set_ne (by omega)]; exact hD2 j h1 h2
        · rw [List.getElem?_set_self (by omega)]
        · simp only [setDoor, ins_end] at e2
          exact e2
      · rintro ρ o4 ⟨pre, D, hpre, hDl, hD1, hD2, hDi, hB4, hS4, a5, a6, a7, a8, a9, a10, a11, a13, rfl⟩
        rw [List.append_nil] at hpre
        refine ⟨D, hDl, fun j hj => ?_, fun j h1 h2 => hD2 j (by omega) h2, hB4, hS4, _, _, _, _, _, _, _, _, _, rfl⟩
        rcases Nat.lt_or_ge j i with q | q
        · exact hD1 j q
        · have e : j = i := by omega
          rw [e, hDi, List.getElem?_eq_getElem hi, hpre]
    · rintro ρ o3 ⟨D, hDl, hD1, hD2, hB3, hS3, a5, a6, a7, a8, a9, a10, a11, a12, a13, rfl⟩
      have e : D = doors := by
        apply List.ext_getElem?
        intro j
        rcases Nat.lt_or_ge j doors.length with q | q
        · exact hD1 j q
        · rw [List.getElem?_eq_none (by omega), List.getElem?_eq_none q]
      subst e
      simp
      exact k o3 hB3 (hS3.weak fun i hi hin => by unfold inB at hin; omega)
end KR
set_option Elab.async false
set_option linter.all false
set_option maxRecDepth 100000
set_option maxHeartbeats 4000000
namespace KR
open PySem L2
/-! ### entries put in, refused or not: just when, and how -/
/-- the first entry that cannot be begun -/
def badO (rs : List Row) : Option Nat := (List.range rs.length).find? fun p => decide ((rs[p]?).elim 0 (·.l) < soon rs (p + 1))
def eBad : Option Nat → D
  | none => .non
  | some i => .int (i : Nat)
theorem badO_none {rs : List Row} : badO rs = none ↔ Fit rs := by
  unfold badO Fit
  rw [List.find?_eq_none]
  constructor
  · intro h p hp
    have := h p (List.mem_range.mpr hp)
    simp at this
    omega
  · intro h p hp
    have := h p (List.mem_range.mp hp)
    simp
    omega
theorem find_at {α : Type} {q : Nat → Bool} {n i : Nat} (hi : i < n) (h : q i = true) (hb : ∀ j, j < i → q j = false) : (List.range n).find? q = some i := by
  rw [List.find?_range_eq_some]
  exact ⟨h, List.mem_range.mpr hi, fun j hj => by rw [hb j hj]; rfl⟩
theorem first_bad_at (rs : List Row) (o : Om) (hl : rs.length ≤ 1000) : phi_first_bad [eRows rs] o = .ok (eBad (badO rs)) o := by
  have key : V (fun d o1 => d = eBad (badO rs) ∧ o1 = o) (fun _ _ => False) (phi_first_bad [eRows rs] o) := by
    refine def_V ?_
    unfold den_first_bad
    have h3 : (-100000 : Int) ≤ rs.length := by omega
    have h4 : (rs.length : Int) ≤ 100000 := by omega
    simp [earliest_eq rs o hl, h3, h4]
    refine W_rng0 rs.length (fun i ρ o1 => o1 = o ∧ (∀ j, j < i → ¬ ((rs[j]?).elim 0 (·.l) < soon rs (j + 1))) ∧ ∃ a, ρ = [.d (eRows rs), .d (.lst ((earl 0 rs).map .int)), a]) ⟨rfl, fun j hj => by omega, _, rfl⟩ ?_ ?_
    · rintro i ρ o1 hi ⟨rfl, hj, a, rfl⟩
      refine ⟨_, rfl, ?_⟩
      simp [atI_nat, earl_get rs i hi, List.getElem?_eq_getElem hi, eRow]
      by_cases q : rs[i].l < soon rs (i + 1)
      · simp [q]
        have e : badO rs = some i := find_at (α := Nat) hi (by simp [List.getElem?_eq_getElem hi, q]) fun j h => by simpa using hj j h
        rw [e]; rfl
      · simp [q]
        intro j h
        rcases Nat.lt_or_ge j i with z | z
        · have := hj j z; omega
        · have e : j = i := by omega
          subst e
          simp [List.getElem?_eq_getElem hi]
          omega
    · rintro ρ o1 ⟨rfl, hj, a, rfl⟩
      simp
      have e : badO rs = none := badO_none.mpr fun p hp => by have := hj p hp; omega
      rw [e]; rfl
  exact V_eq key
theorem fits_at (rs : List Row) (o : Om) (hl : rs.length ≤ 1000) : phi_l_fits [eRows rs] o = .ok (eBad (badO rs)) o := by
  have key : V (fun d o1 => d = eBad (badO rs) ∧ o1 = o) (fun _ _ => False) (phi_l_fits [eRows rs] o) := by
    refine def_V ?_
    unfold den_l_fits
    have h3 : (-100000 : Int) ≤ rs.length := by omega
    have h4 : (rs.length : Int) ≤ 100000 := by omega
    simp [h3, h4]
    refine W_rng0 rs.length (fun i ρ o1 => o1 = o ∧ (∀ j, j < i → ¬ ((rs[j]?).elim 0 (·.l) < soon rs (j + 1))) ∧ ∃ a, ρ = [.d (eRows rs), .d (.int (soon rs i)), a]) ⟨rfl, fun j hj => by omega, _, rfl⟩ ?_ ?_
    · rintro i ρ o1 hi ⟨rfl, hj, a, rfl⟩
      refine ⟨_, rfl, ?_⟩
      have e : max (soon rs i) rs[i].e = soon rs (i + 1) := by
        unfold soon
        rw [List.take_add_one, List.getElem?_eq_getElem hi, List.foldl_append]
        rfl
      simp [atI_nat, List.getElem?_eq_getElem hi, eRow, e]
      by_cases q : rs[i].l < soon rs (i + 1)
      · simp [q]
        have e : badO rs = some i := find_at (α := Nat) hi (by simp [List.getElem?_eq_getElem hi, q]) fun j h => by simpa using hj j h
        rw [e]; rfl
      · simp [q]
        intro j h
        rcases Nat.lt_or_ge j i with z | z
        · have := hj j z; omega
        · have e : j = i := by omega
          subst e
          simp [List.getElem?_eq_getElem hi]
          omega
    · rintro ρ o1 ⟨rfl, hj, a, rfl⟩
      simp
      have e : badO rs = none := badO_none.mpr fun p hp => by have := hj p hp; omega
      rw [e]; rfl
  exact V_eq key
/-- what with_row comes to -/
def wrR (rs : List Row) (n : Nat) (r : Row) (o : Om) : Res D := match badO (ins rs n r) with
  | none => .ok (eRows (ins rs n r)) o
  | some p => .exc (.badTimes p) o
theorem with_row3 (rs : List Row) (r : Row) (o : Om) (hl : rs.length < 8) (n : Nat) (hn : n ≤ rs.length) (hv : ValidRow r) : phi_with_row_v2 [eRows rs, .int n, eRow r] o = wrR rs n r o := by
  have l2 : (ins rs n r).length ≤ 1000 := by rw [ins_len]; omega
  have fb := first_bad_at (ins rs n r) o l2
  have t0 : dChain3 opLe opLe opLe (dC (.int 0)) (d2 opIx (dVar 2) (dC (.int 1))) (d2 opIx (dVar 2) (dC (.int 2))) (dC (.int 999)) [.d (eRows rs), .d (.int n), .d (eRow r), .no, .no] o = .ok (.bl true) o := by
    unfold dChain3
    simp [eRow, hv.1, hv.2.1, hv.2.2]
  have hrl : rs.length ≤ 1000 := by omega
  show dDef 5 den_with_row_v2 _ _ = _
  unfold dDef den_with_row_v2 wrR
  cases q : badO (ins rs n r) with
  | none =>
    rw [q] at fb
    simp [t0, sl_to o rs n hn, sl_from o rs n hn, ad_1 o rs n _ hrl, ad_2 o rs n _ hrl, fb, eBad, isN]
  | some p =>
    rw [q] at fb
    simp [t0, sl_to o rs n hn, sl_from o rs n hn, ad_1 o rs n _ hrl, ad_2 o rs n _ hrl, fb, eBad, isN, dRaiseI, mkPlace]
theorem need_place3 (rs : List Row) (n : Nat) (o : Om) (hl : rs.length ≤ 8) (hn : n ≤ rs.length) : phi_need_place_v2 [eRows rs, .int n] o = if rs.length < 8 then .ok .non o else .exc .badPlace o := by
  show dDef 2 den_need_place_v2 _ _ = _
  unfold dDef den_need_place_v2
  have e8 : opEq o (.int (rs.length : Int)) (.int 8) = some (.bl (((rs.length : Int)) == 8)) := eq_ints o _ _
  by_cases h2 : rs.length < 8
  · have z : ((rs.length : Int) == 8) = false := beq_eq_false_iff_ne.mpr (by omega)
    rw [z] at e8
    simp [dChain, eRows, e8, h2, hn]
  · have z : ((rs.length : Int) == 8) = true := beq_iff_eq.mpr (by omega)
    rw [z] at e8
    simp [dChain, eRows, e8, h2, hn]
/-- the refusal of an entry, if it is one -/
def refused (rs : List Row) (n : Nat) (r : Row) : Option Xc := if rs.length < 8 then (badO (ins rs n r)).map (fun p : Nat => Xc.badTimes (p : Int)) else some .badPlace
theorem refused_none {rs : List Row} {n : Nat} {r : Row} : refused rs n r = none ↔ rs.length < 8 ∧ Fit (ins rs n r) := by
  unfold refused
  by_cases h : rs.length < 8
  · rw [if_pos h, Option.map_eq_none_iff, badO_none]; simp [h]
  · rw [if_neg h]; simp [h]
/-- what hand comes to -/
theorem hand3 {o : Om} {b : Nat} {B : Bk} (h : BkAt o b B) (n : Nat) (k : Key) (hk : B.keys[n]? = some k) (place : Nat) (hp : place ≤ k.rows.length) (hl : k.rows.length ≤ 8) (r : Row) (hw : ∀ i, r.w = some i → 0 ≤ i ∧ i < B.many) (vr : ValidRow r) :
    (refused k.rows place r = none ∧ ∃ o', phi_Book_hand_v2 [.obj b, .int n, .int place, eO r.w, .int r.e, .int r.l] o = .ok .non o' ∧ BkAt o' b (setKey B n ⟨k.opens, k.plain, ins k.rows place r⟩) ∧ Same (inB b) o o') ∨
    ∃ x, refused k.rows place r = some x ∧ phi_Book_hand_v2 [.obj b, .int n, .int place, eO r.w, .int r.e, .int r.l] o = .exc x o := by
  have lt := h.lt
  have hn : n < B.keys.length := (List.getElem?_eq_some_iff.mp hk).1
  have e0 : hv o (.obj (b + 4)) = some (b + 4, B.keys.map fun k => eRows k.rows) := hv_obj h.i4
  have sd : ∀ v, setD (B.keys.map fun k => eRows k.rows) (n : Int) v = some ((B.keys.map fun k => eRows k.rows).set n v) := fun v => setD_nat _ _ _ (by simpa using hn)
  have np : ∀ i, r.w = some i → phi_Book_need_person [.obj b, .int i] o = .ok .non o := fun i e => by
    obtain ⟨i0, i1⟩ := hw i e
    have z := need_person_eq h i.toNat (by omega)
    rwa [show ((i.toNat : Nat) : Int) = i by omega] at z
  have pe := need_place3 k.rows place o hl hp
  by_cases p2 : k.rows.length < 8
  · rw [if_pos p2] at pe
    have wr := with_row3 k.rows r o p2 place hp vr
    unfold wrR at wr
    unfold eRow at wr
    have rf : refused k.rows place r = (badO (ins k.rows place r)).map (fun p : Nat => Xc.badTimes (p : Int)) := if_pos p2
    cases q : badO (ins k.rows place r) with
    | none =>
      rw [q] at wr rf
      refine .inl ⟨rf, o.set (b + 4) (.ml ((B.keys.map fun k => eRows k.rows).set n (eRows (ins k.rows place r)))), ?_, ?_, ?_⟩
      · refine def_ok ?_
        unfold den_Book_hand_v2
        simp [h.fv, h.q4, need_key_eq h n hn, atI_nat, hk, pe]
        cases hw2 : r.w with
        | none =>
          rw [hw2] at wr
          simp [eO, isN] at wr ⊢
          simp [h.fv, h.q4, atI_nat, hk, wr, e0, sd]
        | some i =>
          rw [hw2] at wr
          simp [eO, isN] at wr ⊢
          simp [h.fv, h.q4, atI_nat, hk, wr, e0, sd, np i hw2]
      · refine ⟨?_, ?_, ?_, ?_, ?_⟩
        · rw [List.getElem?_set_ne (by omega)]; exact h.i0
        · rw [List.getElem?_set_ne (by omega)]; exact h.i1
        · rw [List.getElem?_set_ne (by omega), h.i2]; simp only [setKey]; rw [map_set_same (fun k : Key => eTs k.opens) B.keys n _ k hk]; rfl
        · rw [List.getElem?_set_ne (by omega), h.i3]; simp only [setKey]; rw [map_set_same (fun k : Key => D.bl k.plain) B.keys n _ k hk]; rfl
        · rw [List.getElem?_set_self (by omega)]; simp [setKey]
      · exact ⟨by simp, fun i hi n => List.getElem?_set_ne (by unfold inB at n; omega)⟩
    | some p =>
      rw [q] at wr rf
      refine .inr ⟨.badTimes p, rf, ?_⟩
      show dDef 6 den_Book_hand_v2 _ _ = _
      unfold dDef den_Book_hand_v2
      simp [h.fv, h.q4, need_key_eq h n hn, atI_nat, hk, pe]
      cases hw2 : r.w with
      | none =>
        rw [hw2] at wr
        simp [eO, isN] at wr ⊢
        simp [h.fv, h.q4, atI_nat, hk, wr, e0, sd]
      | some i =>
        rw [hw2] at wr
        simp [eO, isN] at wr ⊢
        simp [h.fv, h.q4, atI_nat, hk, wr, e0, sd, np i hw2]
  · rw [if_neg p2] at pe
    refine .inr ⟨.badPlace, if_neg p2, ?_⟩
    show dDef 6 den_Book_hand_v2 _ _ = _
    unfold dDef den_Book_hand_v2
    simp [h.fv, h.q4, need_key_eq h n hn, atI_nat, hk, pe]
theorem fit3 {o : Om} {b : Nat} {B : Bk} (h : BkAt o b B) (n : Nat) (rs : List Row) (hk : B.doors[n]? = some rs) (place : Nat) (hp : place ≤ rs.length) (hl : rs.length ≤ 8) (r : Row) (kd : Int) (hw : r.w = some kd) (hr : 0 ≤ kd ∧ kd ≤ 9) (vr : ValidRow r) :
    (refused rs place r = none ∧ ∃ o', phi_Book_fit_v2 [.obj b, .int n, .int place, .int kd, .int r.e, .int r.l] o = .ok .non o' ∧ BkAt o' b (setDoor B n (ins rs place r)) ∧ Same (inB b) o o') ∨
    ∃ x, refused rs place r = some x ∧ phi_Book_fit_v2 [.obj b, .int n, .int place, .int kd, .int r.e, .int r.l] o = .exc x o := by
  have lt := h.lt
  have hn : n < B.doors.length := (List.getElem?_eq_some_iff.mp hk).1
  have e0 : hv o (.obj (b + 1)) = some (b + 1, B.doors.map eRows) := hv_obj h.i1
  have sd : ∀ v, setD (B.doors.map eRows) (n : Int) v = some ((B.doors.map eRows).set n v) := fun v => setD_nat _ _ _ (by simpa using hn)
  have pe := need_place3 rs place o hl hp
  by_cases p2 : rs.length < 8
  · rw [if_pos p2] at pe
    have wr := with_row3 rs r o p2 place hp vr
    unfold wrR at wr
    unfold eRow at wr
    rw [hw] at wr
    have rf : refused rs place r = (badO (ins rs place r)).map (fun p : Nat => Xc.badTimes (p : Int)) := if_pos p2
    cases q : badO (ins rs place r) with
    | none =>
      rw [q] at wr rf
      refine .inl ⟨rf, o.set (b + 1) (.ml ((B.doors.map eRows).set n (eRows (ins rs place r)))), ?_, ?_, ?_⟩
      · refine def_ok ?_
        unfold den_Book_fit_v2
        simp [h.fv, h.q1, need_door_eq h n hn, atI_nat, hk, pe, hr.1, hr.2]
        simp [eO] at wr ⊢
        simp [h.fv, h.q1, atI_nat, hk, wr, e0, sd]
      · refine ⟨?_, ?_, ?_, ?_, ?_⟩
        · rw [List.getElem?_set_ne (by omega)]; exact h.i0
        · rw [List.getElem?_set_self (by omega)]; simp [setDoor]
        · rw [List.getElem?_set_ne (by omega)]; exact h.i2
        · rw [List.getElem?_set_ne (by omega)]; exact h.i3
        · rw [List.getElem?_set_ne (by omega)]; exact h.i4
      · exact ⟨by simp, fun i hi n => List.getElem?_set_ne (by unfold inB at n; omega)⟩
    | some p =>
      rw [q] at wr rf
      refine .inr ⟨.badTimes p, rf, ?_⟩
      show dDef 6 den_Book_fit_v2 _ _ = _
      unfold dDef den_Book_fit_v2
      simp [h.fv, h.q1, need_door_eq h n hn, atI_nat, hk, pe, hr.1, hr.2]
      simp [eO] at wr ⊢
      simp [h.fv, h.q1, atI_nat, hk, wr, e0, sd]
  · rw [if_neg p2] at pe
    refine .inr ⟨.badPlace, if_neg p2, ?_⟩
    show dDef 6 den_Book_fit_v2 _ _ = _
    unfold dDef den_Book_fit_v2
    simp [h.fv, h.q1, need_door_eq h n hn, atI_nat, hk, pe, hr.1, hr.2]
/-- put in, where it goes -/
theorem hand4 {o : Om} {b : Nat} {B : Bk} (h : BkAt o b B) (n : Nat) (k : Key) (hk : B.keys[n]? = some k) (place : Nat) (hp : place ≤ k.rows.length) (hl : k.rows.length < 8) (r : Row) (hw : ∀ i, r.w = some i → 0 ≤ i ∧ i < B.many) (vr : ValidRow r) (hf : Fit (ins k.rows place r)) :
    ∃ o', phi_Book_hand_v2 [.obj b, .int n, .int place, eO r.w, .int r.e, .int r.l] o = .ok .non o' ∧ BkAt o' b (setKey B n ⟨k.opens, k.plain, ins k.rows place r⟩) ∧ Same (inB b) o o' := by
  have z := refused_none.mpr ⟨hl, hf⟩
  rcases hand3 h n k hk place hp (by omega) r hw vr with ⟨_, q⟩ | ⟨x, e, _⟩
  · exact q
  · rw [z] at e; cases e
theorem fit4 {o : Om} {b : Nat} {B : Bk} (h : BkAt o b B) (n : Nat) (rs : List Row) (hk : B.doors[n]? = some rs) (place : Nat) (hp : place ≤ rs.length) (hl : rs.length < 8) (r : Row) (kd : Int) (hw : r.w = some kd) (hr : 0 ≤ kd ∧ kd ≤ 9) (vr : ValidRow r) (hf : Fit (ins rs place r)) :
    ∃ o', phi_Book_fit_v2 [.obj b, .int n, .int place, .int kd, .int r.e, .int r.l] o = .ok .non o' ∧ BkAt o' b (setDoor B n (ins rs place r)) ∧ Same (inB b) o o' := by
  have z := refused_none.mpr ⟨hl, hf⟩
  rcases fit3 h n rs hk place hp (by omega) r kd hw hr vr with ⟨_, q⟩ | ⟨x, e, _⟩
  · exact q
  · rw [z] at e; cases e
end KR
set_option Elab.async false
set_option linter.all false
set_option maxRecDepth 100000
set_option maxHeartbeats 4000000
namespace KR
open PySem L2
/-! ### the story: the own case by handles, the book beside it -/
theorem told_V {x : Str} {f : KR.DE} {ρ : Rho} {o : Om} {Q : D → Om → Prop} {X : Xc → Om → Prop} (h : (o[0]? : Option MO) = some (.tb x)) (k : (∃ v o1, f ρ o = .ok v o1 ∧ Q v o1) ∨ ∃ c o1, f ρ o = .exc c o1 ∧ Q (toldD c) o1) : V Q X (dTold x f ρ o) := by
  unfold dTold
  rw [h]
  simp only [if_true]
  rcases k with ⟨v, o1, e, q⟩ | ⟨c, o1, e, q⟩
  · rw [e]; exact q
  · rw [e]; exact q
/-- a key that a story has cut -/
structure SKey (persons : Nat) (k : Key) : Prop where
  so : k.opens.Pairwise (· < ·)
  ol : k.opens.length ≤ 10
  ok : ∀ x ∈ k.opens, 0 ≤ x ∧ x ≤ 9
  rl : k.rows.length ≤ 8
  fit : Fit k.rows
  row : ∀ r ∈ k.rows, 0 ≤ r.e ∧ r.e ≤ r.l ∧ r.l ≤ 20
  who : ∀ r ∈ k.rows, ∀ i, r.w = some i → 0 ≤ i ∧ i < persons
structure SDoor (rs : List Row) : Prop where
  rl : rs.length ≤ 8
  fit : Fit rs
  row : ∀ r ∈ rs, 0 ≤ r.e ∧ r.e ≤ r.l ∧ r.l ≤ 20
  kd : ∀ r ∈ rs, ∃ i, r.w = some i ∧ 0 ≤ i ∧ i ≤ 9
def eSK (k : Key × Nat) : D := .tup [eTs k.1.opens, .bl k.1.plain, .obj k.2]
/-- the case as it stands in the store -/
structure CaseAt (o : Om) (persons hk hd : Nat) (ks : List (Key × Nat)) (ds : List (List Row × Nat)) : Prop where
  keys : o[hk]? = some (.ml (ks.map eSK))
  krow : ∀ k ∈ ks, o[k.2]? = some (.ml (k.1.rows.map eRow))
  doors : o[hd]? = some (.ml (ds.map fun d => .obj d.2))
  drow : ∀ d ∈ ds, o[d.2]? = some (.ml (d.1.map eRow))
  sk : ∀ k ∈ ks, SKey persons k.1
  sd : ∀ d ∈ ds, SDoor d.1
  kl : ks.length ≤ 6
  nk : (ks.map (·.2)).Nodup
  nd : (ds.map (·.2)).Nodup
theorem lt_of_some {α : Type} {l : List α} {n : Nat} {x : α} (h : l[n]? = some x) : n < l.length := (List.getElem?_eq_some_iff.mp h).1
theorem CaseAt.same {p : Nat → Prop} {o o' : Om} {persons hk hd : Nat} {ks : List (Key × Nat)} {ds : List (List Row × Nat)} (c : CaseAt o persons hk hd ks ds) (s : Same p o o') (h1 : ¬ p hk) (h2 : ¬ p hd) (h3 : ∀ k ∈ ks, ¬ p k.2) (h4 : ∀ d ∈ ds, ¬ p d.2) : CaseAt o' persons hk hd ks ds where
  keys := (s.2 hk (lt_of_some c.keys) h1).trans c.keys
  krow := fun k hk => (s.2 k.2 (lt_of_some (c.krow k hk)) (h3 k hk)).trans (c.krow k hk)
  doors := (s.2 hd (lt_of_some c.doors) h2).trans c.doors
  drow := fun d hd => (s.2 d.2 (lt_of_some (c.drow d hd)) (h4 d hd)).trans (c.drow d hd)
  sk := c.sk
  sd := c.sd
  kl := c.kl
  nk := c.nk
  nd := c.nd
abbrev Ks := List (Key × Nat)
abbrev Ds := List (List Row × Nat)
/-- the book that a case tells -/
def caseB (persons : Nat) (ks : Ks) (ds : Ds) : Bk := ⟨persons, ds.map (·.1), ks.map (·.1)⟩
structure StAt (o : Om) (t : Str) (b persons hk hd : Nat) (ks : Ks) (ds : Ds) (B : Bk) : Prop where
  tb : (o[0]? : Option MO) = some (.tb t)
  dc : Dch 1 o
  case : CaseAt o persons hk hd ks ds
  bk : BkAt o b B
  hk1 : 1 < hk ∧ hk < b
  hd1 : 1 < hd ∧ hd < b ∧ hd ≠ hk
  dh : ∀ d ∈ ds, 1 < d.2 ∧ d.2 < b ∧ d.2 ≠ hk ∧ d.2 ≠ hd
  kh : ∀ k ∈ ks, b + 4 < k.2
  pl : 1 ≤ persons ∧ persons ≤ 4
  dl : 1 ≤ ds.length ∧ ds.length ≤ 2
abbrev StoryAt (o : Om) (t : Str) (b persons hk hd : Nat) (ks : Ks) (ds : Ds) : Prop := StAt o t b persons hk hd ks ds (caseB persons ks ds)
section
variable {o o' : Om} {t : Str} {b persons hk hd : Nat} {ks : Ks} {ds : Ds} {B B' : Bk}
theorem StAt.dice (s : StAt o t b persons hk hd ks ds B) (d : Dch 1 o') (m : Same (· = 1) o o') : StAt o' t b persons hk hd ks ds B where
  tb := (m.2 0 (lt_of_some s.tb) (by simp)).trans s.tb
  dc := d
  case := s.case.same m (by have := s.hk1; omega) (by have := s.hd1; omega) (fun k h => by have := s.kh k h; omega) (fun d h => by have := s.dh d h; omega)
  bk := s.bk.same m fun j _ => by have := s.hk1; omega
  hk1 := s.hk1
  hd1 := s.hd1
  dh := s.dh
  kh := s.kh
  pl := s.pl
  dl := s.dl
/-- the book alone has changed -/
theorem StAt.book (s : StAt o t b persons hk hd ks ds B) (h : BkAt o' b B') (m : Same (inB b) o o') : StAt o' t b persons hk hd ks ds B' where
  tb := (m.2 0 (lt_of_some s.tb) (by have := s.hk1; unfold inB; omega)).trans s.tb
  dc := s.dc.same m (by have := s.hk1; unfold inB; omega)
  case := s.case.same m (by have := s.hk1; unfold inB; omega) (by have := s.hd1; unfold inB; omega) (fun k h => by have := s.kh k h; unfold inB; omega) (fun d h => by have := s.dh d h; unfold inB; omega)
  bk := h
  hk1 := s.hk1
  hd1 := s.hd1
  dh := s.dh
  kh := s.kh
  pl := s.pl
  dl := s.dl
/-- things were made -/
theorem StAt.more (s : StAt o t b persons hk hd ks ds B) (m : Same (fun _ => False) o o') : StAt o' t b persons hk hd ks ds B where
  tb := (m.2 0 (lt_of_some s.tb) id).trans s.tb
  dc := s.dc.same m id
  case := s.case.same m id id (fun k h => id) (fun d h => id)
  bk := s.bk.same m fun j _ => id
  hk1 := s.hk1
  hd1 := s.hd1
  dh := s.dh
  kh := s.kh
  pl := s.pl
  dl := s.dl
theorem same_app_set (o : Om) (x y : MO) (n : Nat) (hn : n < o.length) : Same (· = n) o ((o ++ [x]).set n y) :=
  ⟨by simp, fun i hi hne => by rw [List.getElem?_set_ne (Ne.symm hne), List.getElem?_append_left hi]⟩
/-- a key is cut -/
theorem StAt.cut (s : StoryAt o t b persons hk hd ks ds) (h6 : ks.length < 6) (opens : List Int) (plain : Bool) (ho : opens.Pairwise (· < ·)) (hl : opens.length ≤ 10) (hr : ∀ k ∈ opens, 0 ≤ k ∧ k ≤ 9) :
    ∃ o2, phi_Book_cut [.obj b, eTs opens, .bl plain] ((o ++ [MO.ml []]).set hk (MO.ml (ks.map eSK ++ [D.tup [eTs opens, .bl plain, .obj o.length]]))) = .ok (.int ks.length) o2 ∧ StoryAt o2 t b persons hk hd (ks ++ [(⟨opens, plain, []⟩, o.length)]) ds := by
  obtain ⟨o1, h1⟩ : ∃ o1, o1 = (o ++ [MO.ml []]).set hk (MO.ml (ks.map eSK ++ [D.tup [eTs opens, .bl plain, .obj o.length]])) := ⟨_, rfl⟩
  rw [← h1]
  have k1 := s.hk1
  have k2 := s.hd1
  have lk := lt_of_some s.case.keys
  have m1 : Same (· = hk) o o1 := by rw [h1]; exact same_app_set o _ _ hk lk
  have hB := s.bk
  have lb := hB.lt
  have hB1 : BkAt o1 b (caseB persons ks ds) := hB.same m1 fun j _ => by omega
  obtain ⟨o2, c1, c2, m2⟩ := cut_eq hB1 (by simpa [caseB] using h6) opens plain ho hl hr
  refine ⟨o2, by rw [c1]; simp [caseB], ?_⟩
  have at_k : o1[hk]? = some (.ml (ks.map eSK ++ [.tup [eTs opens, .bl plain, .obj o.length]])) := by rw [h1]; exact List.getElem?_set_self (by simp; omega)
  have at_n : o1[o.length]? = some (.ml []) := by rw [h1, List.getElem?_set_ne (by omega)]; simp
  have keep : ∀ i x, o[i]? = some x → i ≠ hk → ¬ (b ≤ i ∧ i < b + 5) → o2[i]? = some x := fun i x e n1 n2 => by
    have q := (m1.2 i (lt_of_some e) n1).trans e
    exact (m2.2 i (lt_of_some q) n2).trans q
  obtain ⟨z1, z2, z3, z4, z5, z6⟩ := s.dc
  refine ⟨keep 0 _ s.tb (by omega) (by omega), ⟨z1, z2, z3, z4, keep 1 _ z5 (by omega) (by omega), z6⟩, ⟨?_, ?_, keep hd _ s.case.doors k2.2.2 (by omega), fun d hd' => keep d.2 _ (s.case.drow d hd') (by have := s.dh d hd'; omega) (by have := s.dh d hd'; omega), ?_, s.case.sd, by simp; omega, ?_, s.case.nd⟩,
    ?_, s.hk1, s.hd1, s.dh, ?_, s.pl, s.dl⟩
  · rw [m2.2 hk (lt_of_some at_k) (by omega), at_k, List.map_append]; rfl
  · intro k hk'
    rcases List.mem_append.mp hk' with z | z
    · have kb := s.kh k z
      exact keep k.2 _ (s.case.krow k z) (by omega) (by omega)
    · rw [List.mem_singleton.mp z]
      rw [m2.2 o.length (lt_of_some at_n) (by omega), at_n]; rfl
  · intro k hk'
    rcases List.mem_append.mp hk' with z | z
    · exact s.case.sk k z
    · rw [List.mem_singleton.mp z]
      exact ⟨ho, hl, hr, by simp, fun p hp => by simp at hp, fun r hr' => by simp at hr', fun r hr' => by simp at hr'⟩
  · rw [List.map_append, List.nodup_append]
    refine ⟨s.case.nk, by simp, fun x hx y hy => ?_⟩
    obtain ⟨k, hk', e⟩ := List.mem_map.mp hx
    simp at hy
    have := lt_of_some (s.case.krow k hk')
    omega
  · have e : addKey (caseB persons ks ds) ⟨opens, plain, []⟩ = caseB persons (ks ++ [(⟨opens, plain, []⟩, o.length)]) ds := by simp [addKey, caseB]
    rw [← e]; exact c2
  · intro k hk'
    rcases List.mem_append.mp hk' with z | z
    · exact s.kh k z
    · rw [List.mem_singleton.mp z]; show b + 4 < o.length; omega
theorem set_map_snd {α β : Type} (ks : List (α × β)) (j : Nat) (a : α) (k : α × β) (h : ks[j]? = some k) : (ks.set j (a, k.2)).map (·.2) = ks.map (·.2) := by
  apply List.ext_getElem?
  intro i
  rw [List.getElem?_map, List.getElem?_map, List.getElem?_set]
  by_cases e : j = i
  · subst e
    have l := lt_of_some h
    have e2 : ks[j] = k := by
      rw [List.getElem?_eq_getElem l] at h
      exact Option.some.inj h
    simp [l, e2]
  · simp [e]
theorem nodup_idx {α : Type} {ks : List (α × Nat)} (nd : (ks.map (·.2)).Nodup) {i j : Nat} {a b : α × Nat} (hi : ks[i]? = some a) (hj : ks[j]? = some b) (e : a.2 = b.2) : i = j := by
  have h1 : (ks.map (·.2))[i]? = some a.2 := by rw [List.getElem?_map, hi]; rfl
  have h2 : (ks.map (·.2))[j]? = some a.2 := by rw [List.getElem?_map, hj, e]; rfl
  exact nodup_at nd h1 h2
/-- an entry of a key stands in the own case now -/
theorem StAt.insK (s : StAt o t b persons hk hd ks ds B) (j : Nat) (k : Key × Nat) (hj : ks[j]? = some k) (rows : List Row) (ok : SKey persons ⟨k.1.opens, k.1.plain, rows⟩) :
    StAt (o.set k.2 (.ml (rows.map eRow))) t b persons hk hd (ks.set j (⟨k.1.opens, k.1.plain, rows⟩, k.2)) ds B := by
  have km := List.mem_of_getElem? hj
  have kb := s.kh k km
  have kl := lt_of_some (s.case.krow k km)
  have k1 := s.hk1
  have k2 := s.hd1
  have m := Same.set o k.2 (MO.ml (rows.map eRow))
  have keep : ∀ i x, o[i]? = some x → i ≠ k.2 → (o.set k.2 (.ml (rows.map eRow)))[i]? = some x := fun i x e n => (m.2 i (lt_of_some e) n).trans e
  obtain ⟨z1, z2, z3, z4, z5, z6⟩ := s.dc
  refine ⟨keep 0 _ s.tb (by omega), ⟨z1, z2, z3, z4, keep 1 _ z5 (by omega), z6⟩, ⟨?_, ?_, keep hd _ s.case.doors (by omega), fun d hd' => keep d.2 _ (s.case.drow d hd') (by have := s.dh d hd'; omega), ?_, s.case.sd, by simpa using s.case.kl, ?_, s.case.nd⟩,
    s.bk.same m fun i _ => by omega, s.hk1, s.hd1, s.dh, ?_, s.pl, s.dl⟩
  · refine (keep hk _ s.case.keys (by omega)).trans ?_
    congr 2
    exact (map_set_same eSK ks j (⟨k.1.opens, k.1.plain, rows⟩, k.2) k hj rfl).symm
  · intro q hq
    rcases List.getElem?_of_mem hq with ⟨i, hi⟩
    by_cases e : i = j
    · subst e
      rw [List.getElem?_set_self (lt_of_some hj)] at hi
      cases hi
      exact List.getElem?_set_self kl
    · rw [List.getElem?_set_ne (Ne.symm e)] at hi
      exact keep q.2 _ (s.case.krow q (List.mem_of_getElem? hi)) fun z => e (nodup_idx s.case.nk hi hj z)
  · intro q hq
    rcases List.mem_or_eq_of_mem_set hq with z | z
    · exact s.case.sk q z
    · rw [z]; exact ok
  · rw [set_map_snd ks j _ k hj]; exact s.case.nk
  · intro q hq
    rcases List.mem_or_eq_of_mem_set hq with z | z
    · exact s.kh q z
    · rw [z]; exact kb
theorem StAt.insD (s : StAt o t b persons hk hd ks ds B) (j : Nat) (d : List Row × Nat) (hj : ds[j]? = some d) (rows : List Row) (ok : SDoor rows) :
    StAt (o.set d.2 (.ml (rows.map eRow))) t b persons hk hd ks (ds.set j (rows, d.2)) B := by
  have dm := List.mem_of_getElem? hj
  obtain ⟨d1, d2, d3, d4⟩ := s.dh d dm
  have dl := lt_of_some (s.case.drow d dm)
  have k1 := s.hk1
  have k2 := s.hd1
  have m := Same.set o d.2 (MO.ml (rows.map eRow))
  have keep : ∀ i x, o[i]? = some x → i ≠ d.2 → (o.set d.2 (.ml (rows.map eRow)))[i]? = some x := fun i x e n => (m.2 i (lt_of_some e) n).trans e
  obtain ⟨z1, z2, z3, z4, z5, z6⟩ := s.dc
  refine ⟨keep 0 _ s.tb (by omega), ⟨z1, z2, z3, z4, keep 1 _ z5 (by omega), z6⟩, ⟨keep hk _ s.case.keys (by omega), fun k hk' => keep k.2 _ (s.case.krow k hk') (by have := s.kh k hk'; omega), ?_, ?_, s.case.sk, ?_, s.case.kl, s.case.nk, ?_⟩,
    s.bk.same m fun i _ => by omega, s.hk1, s.hd1, ?_, s.kh, s.pl, by rw [List.length_set]; exact s.dl⟩
  · refine (keep hd _ s.case.doors (by omega)).trans ?_
    congr 2
    exact (map_set_same (fun q : List Row × Nat => D.obj q.2) ds j (rows, d.2) d hj rfl).symm
  · intro q hq
    rcases List.getElem?_of_mem hq with ⟨i, hi⟩
    by_cases e : i = j
    · subst e
      rw [List.getElem?_set_self (lt_of_some hj)] at hi
      cases hi
      exact List.getElem?_set_self dl
    · rw [List.getElem?_set_ne (Ne.symm e)] at hi
      exact keep q.2 _ (s.case.drow q (List.mem_of_getElem? hi)) fun z => e (nodup_idx s.case.nd hi hj z)
  · intro q hq
    rcases List.mem_or_eq_of_mem_set hq with z | z
    · exact s.case.sd q z
    · rw [z]; exact ok
  · rw [set_map_snd ds j _ d hj]; exact s.case.nd
  · intro q hq
    rcases List.mem_or_eq_of_mem_set hq with z | z
    · exact s.dh q z
    · rw [z]; exact ⟨d1, d2, d3, d4⟩
theorem set_map_fst {α β γ : Type} (f : α → γ) (ks : List (α × β)) (j : Nat) (a : α) (y : β) : (ks.set j (a, y)).map (fun k => f k.1) = (ks.map fun k => f k.1).set j (f a) := by
  rw [List.map_set]
end
end KR
set_option Elab.async false
set_option linter.all false
set_option maxRecDepth 100000
set_option maxHeartbeats 4000000
namespace KR
open PySem L2
/-! ### a turn of the story -/
def den_tcut : DS := (dIfS (dAnd (dT (d2 opEq (dVar 6) (dC (.int 0)))) (dT (d2 opLt (dN opLen (dCons (dVar 4) dNil)) (dC (.int 6))))) (dSeq (dAsg (dN opTuple (dCons (dLc (iR1 (dC (.int 10))) (pNm 17) (dT (d2 opEq (dCall 2 phi_l_next (dCons (dVar 0) (dCons (dC (.int 2)) dNil))) (dC (.int 0)))) (dVar 17) [17]) dNil)) (pNm 7)) (dSeq (dAsg (d2 opEq (dCall 2 phi_l_next (dCons (dVar 0) (dCons (dC (.int 2)) dNil))) (dC (.int 1))) (pNm 8)) (dSeq (dDrop (dBM mAppend (dVar 4) (dCons (dN opTup (dCons (dVar 7) (dCons (dVar 8) (dCons (dLstH dNil) dNil)))) dNil))) (dDrop (dMeth "cut" 3 phi_Book_cut (dVar 1) (dCons (dVar 7) (dCons (dVar 8) dNil))))))) dSkip)
def den_thand : DS := (dSeq (dAsg (dCall 2 phi_l_next (dCons (dVar 0) (dCons (dN opLen (dCons (dVar 4) dNil)) dNil))) (pNm 11)) (dSeq (dAsg (d2 opIx (d2 opIx (dVar 4) (dVar 11)) (dC (.int 2))) (pNm 12)) (dSeq (dAsg (dCall 2 phi_l_next (dCons (dVar 0) (dCons (d2 opAdd (dN opLen (dCons (dVar 12) dNil)) (dC (.int 1))) dNil))) (pNm 13)) (dSeq (dAsg (d2 opIx (d2 opAdd (dN opLst (dCons (dC .non) dNil)) (d2 opMul (d1 opLRg (dVar 3)) (dC (.int 2)))) (dCall 2 phi_l_next (dCons (dVar 0) (dCons (d2 opAdd (dC (.int 1)) (d2 opMul (dC (.int 2)) (dVar 3))) dNil)))) (pNm 14)) (dSeq (dDrop (dTold "_law_turn" (dMeth "hand" 6 phi_Book_hand_v2 (dVar 1) (dCons (dVar 11) (dCons (dVar 13) (dCons (dVar 14) (dCons (dVar 9) (dCons (dVar 10) dNil)))))))) (dAsg (dN opTup (dCons (dVar 14) (dCons (dVar 9) (dCons (dVar 10) dNil)))) (pNm 15)))))))
def den_tfit : DS := (dSeq (dAsg (dCall 2 phi_l_next (dCons (dVar 0) (dCons (dN opLen (dCons (dVar 5) dNil)) dNil))) (pNm 16)) (dSeq (dAsg (d2 opIx (dVar 5) (dVar 16)) (pNm 12)) (dSeq (dAsg (dCall 2 phi_l_next (dCons (dVar 0) (dCons (d2 opAdd (dN opLen (dCons (dVar 12) dNil)) (dC (.int 1))) dNil))) (pNm 13)) (dSeq (dAsg (dCall 2 phi_l_next (dCons (dVar 0) (dCons (d2 opIx (dN opLst (dCons (dC (.int 3)) (dCons (dC (.int 10)) dNil))) (dCall 2 phi_l_next (dCons (dVar 0) (dCons (dC (.int 2)) dNil)))) dNil))) (pNm 17)) (dSeq (dDrop (dTold "_law_turn" (dMeth "fit" 6 phi_Book_fit_v2 (dVar 1) (dCons (dVar 16) (dCons (dVar 13) (dCons (dVar 17) (dCons (dVar 9) (dCons (dVar 10) dNil)))))))) (dAsg (dN opTup (dCons (dVar 17) (dCons (dVar 9) (dCons (dVar 10) dNil)))) (pNm 15)))))))
def den_tins : DS := (dIfS (dAnd (dT (d2 opLt (dN opLen (dCons (dVar 12) dNil)) (dC (.int 8)))) (dT (d2 opIs (dCall 1 phi_l_fits (dCons (d2 opAdd (d2 opAdd (dSl opSl (dVar 12) doNo (doSo (dVar 13))) (dN opLst (dCons (dVar 15) dNil))) (dSl opSl (dVar 12) (doSo (dVar 13)) doNo)) dNil)) (dC .non)))) (dDrop (dBM mInsert (dVar 12) (dCons (dVar 13) (dCons (dVar 15) dNil)))) dSkip)
theorem den_turn_split : den_l_turn = (dSeq (dAsg (dVar 2) (pTp (psLen 3 (psCons (pNm 3) (psCons (pNm 4) (psCons (pNm 5) psNil)))))) (dSeq (dAsg (dCall 2 phi_l_next (dCons (dVar 0) (dCons (dC (.int 6)) dNil))) (pNm 6)) (dSeq den_tcut (dSeq (dAsg (dCall 2 phi_l_window (dCons (dVar 0) (dCons (d2 opIx (dN opLst (dCons (dC (.int 8)) (dCons (dC (.int 20)) dNil))) (dCall 2 phi_l_next (dCons (dVar 0) (dCons (dC (.int 2)) dNil)))) dNil))) (pTp (psLen 2 (psCons (pNm 9) (psCons (pNm 10) psNil))))) (dSeq (dIfS (dAnd (dT (d2 opLt (dVar 6) (dC (.int 4)))) (dT (d2 opNe (dVar 4) (dN opLst dNil)))) den_thand den_tfit) den_tins))))) := rfl
section
variable {o : Om} {b persons hk hd : Nat} {ks : Ks} {ds : Ds} {B : Bk} {N : Rho → Om → Prop} {T : D → Om → Prop} {X : Xc → Om → Prop}
def eHC (persons hk hd : Nat) : D := .tup [.int persons, .obj hk, .obj hd]
/-- drawn kinds -/
theorem kinds_V {t : Str} (s : StAt o t b persons hk hd ks ds B) {ρ : Rho} {Q : List D → Om → Prop} (h0 : (wipeE ρ [17])[0]? = some (.d (.obj 1))) (hl : ρ.length = 18)
    (k : ∀ (sel : List Nat) o', sel.Sublist (List.range 10) → StAt o' t b persons hk hd ks ds B → Q (sel.map eN) o') :
    V Q X (loopD (pNm 17) (dT (d2 opEq (dCall 2 phi_l_next (dCons (dVar 0) (dCons (dC (.int 2)) dNil))) (dC (.int 0)))) (dVar 17) (.rng 0 10) (wipeE ρ [17]) o) := by
  have hl2 : (wipeE ρ [17]).length = 18 := by simp [wipeE, hl]
  generalize wipeE ρ [17] = ρ1 at h0 hl2
  refine V_crng 10 (by omega) (fun r acc o5 => StAt o5 t b persons hk hd ks ds B ∧ ∃ pre sel, pre ++ r = List.range 10 ∧ sel.Sublist pre ∧ acc = sel.map eN) ⟨s, [], [], rfl, List.Sublist.refl _, rfl⟩ ?_ ?_
  · rintro x r acc o5 ⟨s5, pre, sel, hpre, hsub, rfl⟩
    refine ⟨_, rfl, ?_⟩
    have h0' : (ρ1.set 17 (.d (.int (x : Int))))[0]? = some (.d (.obj 1)) := by rw [List.getElem?_set_ne (by omega)]; exact h0
    have h17 : (ρ1.set 17 (.d (.int (x : Int))))[17]? = some (.d (.int (x : Int))) := List.getElem?_set_self (by omega)
    simp [h0', h17]
    refine next_h s5.dc (by omega) (by omega) fun z o6 hz d6 s6 => ?_
    simp [eq_ints]
    by_cases q : z = 0
    · simp [q]
      exact ⟨s5.dice d6 s6, pre ++ [x], by simpa using hpre, sel ++ [x], hsub.append (List.Sublist.refl _), by simp [eN]⟩
    · simp [q]
      exact ⟨s5.dice d6 s6, pre ++ [x], by simpa using hpre, sel, hsub.trans (List.sublist_append_left _ _), rfl⟩
  · rintro acc o5 ⟨s5, pre, sel, hpre, hsub, rfl⟩
    rw [List.append_nil] at hpre
    subst hpre
    exact k sel o5 hsub s5
theorem tcut_W {t : Str} (s : StoryAt o t b persons hk hd ks ds) {way : Nat} {a7 a8 a9 a10 a11 a12 a13 a14 a15 a16 a17 : EV}
    (k : ∀ o' ks' b7 b8, StoryAt o' t b persons hk hd ks' ds → N [.d (.obj 1), .d (.obj b), .d (eHC persons hk hd), .d (.int persons), .d (.obj hk), .d (.obj hd), .d (.int way), b7, b8, a9, a10, a11, a12, a13, a14, a15, a16, a17] o') :
    W N T X (den_tcut [.d (.obj 1), .d (.obj b), .d (eHC persons hk hd), .d (.int persons), .d (.obj hk), .d (.obj hd), .d (.int way), a7, a8, a9, a10, a11, a12, a13, a14, a15, a16, a17] o) := by
  unfold den_tcut
  have kq := qv_obj s.case.keys
  simp [eq_ints, kq]
  by_cases c1 : way = 0
  · simp [c1, kq]
    by_cases c2 : ks.length < 6
    · have c2' : (ks.length : Int) < 6 := by omega
      simp [c2']
      refine kinds_V s (by simp [wipeE]) (by simp) fun sel o1 hsub s1 => ?_
      obtain ⟨q1, q2, q3⟩ := sub_range hsub (by omega)
      have et : ∀ o : Om, opTuple o [.lst (sel.map eN)] = some (eTs (sel.map fun p : Nat => (p : Int))) := fun o => by
        show some (D.tup (sel.map eN)) = _
        rw [map_eN]; rfl
      simp [et]
      refine next_h s1.dc (by omega) (by omega) fun z o2 hz d2 m2 => ?_
      have s2 := s1.dice d2 m2
      have hq : hv o2 (.obj hk) = some (hk, ks.map eSK) := hv_obj s2.case.keys
      have lk := lt_of_some s2.case.keys
      have hq2 : hv (o2 ++ [.ml []]) (.obj hk) = some (hk, ks.map eSK) := hv_obj (by rw [List.getElem?_append_left lk]; exact s2.case.keys)
      have l6 : ks.length < 100000 := by omega
      simp [eq_ints, hq, hq2, mAppend, l6]
      obtain ⟨o3, e3, s3⟩ := s2.cut c2 (sel.map fun p : Nat => (p : Int)) ((z : Int) == 1) q1 q3 q2
      have fb : fv ((o2 ++ [MO.ml []]).set hk (MO.ml (ks.map eSK ++ [D.tup [eTs (sel.map fun p : Nat => (p : Int)), .bl ((z : Int) == 1), .obj o2.length]]))) (.obj b) = some (b, bkF b persons) := by
        have := (s2.bk.same (same_app_set o2 (MO.ml []) (MO.ml (ks.map eSK ++ [D.tup [eTs (sel.map fun p : Nat => (p : Int)), .bl ((z : Int) == 1), .obj o2.length]])) hk lk) fun j _ => by have := s2.hk1; omega).fv
        exact this
      simp only [fb, lk_8, if_true, e3, V_ok]
      have := k o3 _ (.d (eTs (sel.map fun p : Nat => (p : Int)))) (.d (.bl ((z : Int) == 1))) s3
      simpa [c1] using this
    · have c2' : ¬ (ks.length : Int) < 6 := by omega
      simp [c2']
      have := k o ks a7 a8 s
      simpa [c1] using this
  · simp [c1]
    exact k o ks a7 a8 s
/-- put into the own rows just when the book takes it -/
theorem tins_W {rs : List Row} {h place : Nat} {r : Row} {ρ : Rho} (hh : o[h]? = some (.ml (rs.map eRow))) (hl : rs.length ≤ 8) (hp : place ≤ rs.length) (h12 : ρ[12]? = some (.d (.obj h))) (h13 : ρ[13]? = some (.d (.int (place : Int)))) (h15 : ρ[15]? = some (.d (eRow r)))
    (k1 : refused rs place r = none → N ρ (o.set h (.ml ((ins rs place r).map eRow)))) (k2 : refused rs place r ≠ none → N ρ o) : W N T X (den_tins ρ o) := by
  unfold den_tins
  have hq := qv_obj hh
  have hvq := hv_obj hh
  have hlv := lv_obj hh
  have hrl : rs.length ≤ 1000 := by omega
  have t1 : opSl o (.obj h) none (some (place : Int)) = some (eTk rs place) := by
    rw [← sl_to o rs place hp]
    show (lv o (.obj h)).map _ = _
    rw [hlv]; rfl
  have t2 : opSl o (.obj h) (some (place : Int)) none = some (eDr rs place) := by
    rw [← sl_from o rs place hp]
    show (lv o (.obj h)).map _ = _
    rw [hlv]; rfl
  have ft := fits_at (ins rs place r) o (by rw [ins_len]; omega)
  simp [h12, h13, h15, hq]
  by_cases c : rs.length < 8
  · have c' : (rs.length : Int) < 8 := by omega
    simp [c', h12, h13, h15, t1, t2, ad_1 o rs place r hrl, ad_2 o rs place r hrl, ft]
    cases q : badO (ins rs place r) with
    | none =>
      have rn : refused rs place r = none := refused_none.mpr ⟨c, badO_none.mp q⟩
      have c8 : rs.length < 1000 := by omega
      have c9 : (place : Int) < 1000 := by omega
      simp [eBad, isN, h12, h13, h15, hvq, mInsert, c8, c9]
      have := k1 rn
      simpa [ins] using this
    | some p =>
      simp [eBad, isN]
      refine k2 ?_
      unfold refused
      rw [if_pos c, q]
      simp
  · have c' : ¬ (rs.length : Int) < 8 := by omega
    simp [c']
    refine k2 ?_
    unfold refused
    rw [if_neg c]
    simp
theorem who_at (persons : Nat) (hp : persons ≤ 4) (i : Nat) (hi : i < 1 + 2 * persons) (o : Om) : ∃ (L : List D) (w : Option Int), opMul o (.lst ((List.range persons).map eN)) (.int 2) = some (.lst L) ∧ L.length = 2 * persons ∧ L2.atI (.non :: L) (i : Int) = some (eO w) ∧ ∀ j, w = some j → 0 ≤ j ∧ j < persons := by
  refine ⟨(List.range persons).map eN ++ (List.range persons).map eN, ?_⟩
  have e : opMul o (.lst ((List.range persons).map eN)) (.int 2) = some (.lst ((List.range persons).map eN ++ (List.range persons).map eN)) := by
    have : (((List.range persons).map eN).length ≤ 1000) := by simp; omega
    show (if -1000 ≤ (2 : Int) ∧ (2 : Int) ≤ 1000 ∧ ((List.range persons).map eN).length ≤ 1000 then some (D.lst (List.replicate (2 : Int).toNat ((List.range persons).map eN)).flatten) else none) = _
    rw [if_pos ⟨by decide, by decide, this⟩]
    simp [List.replicate]
  have len : ((List.range persons).map eN ++ (List.range persons).map eN).length = 2 * persons := by simp; omega
  have hi2 : i < (D.non :: ((List.range persons).map eN ++ (List.range persons).map eN)).length := by rw [List.length_cons, len]; omega
  have m := List.getElem_mem hi2
  have at_ : L2.atI (D.non :: ((List.range persons).map eN ++ (List.range persons).map eN)) (i : Int) = some (D.non :: ((List.range persons).map eN ++ (List.range persons).map eN))[i] := by
    rw [atI_nat, List.getElem?_eq_getElem hi2]
  generalize (D.non :: ((List.range persons).map eN ++ (List.range persons).map eN))[i] = x at m at_
  rcases List.mem_cons.mp m with z | z
  · exact ⟨none, e, len, by rw [at_, z]; rfl, fun j h => by cases h⟩
  · have z : x ∈ (List.range persons).map eN := by
      rcases List.mem_append.mp z with z | z <;> exact z
    obtain ⟨p, hp, e2⟩ := List.mem_map.mp z
    have := List.mem_range.mp hp
    exact ⟨some (p : Int), e, len, by rw [at_, ← e2]; rfl, fun j h => by cases h; omega⟩
end
end KR
set_option Elab.async false
set_option linter.all false
set_option maxRecDepth 100000
set_option maxHeartbeats 2000000
namespace KR
open PySem L2
theorem isN_non : isN .non = true := rfl
/-! ### narrower windows (k08) -/
def NarR (ws : List Int) (r r' : Row) : Prop := r.e ≤ r'.e ∧ r'.e ≤ r'.l ∧ r'.l ≤ r.l ∧ (r'.w = r.w ∨ (r.w = none ∧ ∃ p ∈ ws, r'.w = some p))
def Nar (ws : List Int) (rs rs' : List Row) : Prop := rs'.length = rs.length ∧ ∀ (i : Nat) (r r' : Row), rs[i]? = some r → rs'[i]? = some r' → NarR ws r r'
theorem sl_from1 (o : Om) (rs : List Row) (n : Nat) (hn : n + 1 ≤ rs.length) : opSl o (eRows rs) (some ((n : Int) + 1)) none = some (eDr rs (n + 1)) := sl_from o rs (n + 1) hn
theorem ad_s (o : Om) (rs : List Row) (n : Nat) (r : Row) (h : rs.length ≤ 1000) (hn : n < rs.length) : opAdd o (eTk1 rs n r) (eDr rs (n + 1)) = some (eRows (rs.set n r)) := by
  unfold eTk1 eDr
  rw [op_addL (by simp; omega), List.set_eq_take_append_cons_drop, if_pos hn]
  simp [eRows]
theorem narrow_V {o : Om} {ws : List Int} {rs : List Row} {Q : D → Om → Prop} {X : Xc → Om → Prop} (h : Dc o) (hw : ws ≠ []) (hwl : ws.length ≤ 1000) (hl : rs.length ≤ 1000) (hr : ∀ r ∈ rs, 0 ≤ r.e ∧ r.e ≤ r.l ∧ r.l ≤ 999) (hfit : Fit rs)
    (k : ∀ rs' o', Nar ws rs rs' → Fit rs' → Dc o' → Same (· = 0) o o' → Q (eRows rs') o') : V Q X (phi_l_narrow [.obj 0, eRows rs, .lst (ws.map .int)] o) := by
  have hwp : 0 < ws.length := List.length_pos_iff.mpr hw
  have n1 : (-100000 : Int) ≤ rs.length := by omega
  have n2 : (rs.length : Int) ≤ 100000 := by omega
  have li : opList o [eRows rs] = some (eRows rs) := rfl
  refine def_V ?_
  unfold den_l_narrow
  simp [n1, n2, li]
  refine W_rng0 rs.length (fun i ρ o1 => Dc o1 ∧ Same (· = 0) o o1 ∧ ∃ (f : List Row) (a4 a5 a6 a7 a8 a9 a10 : EV), Nar ws rs f ∧ Fit f ∧ ρ = [.d (.obj 0), .d (eRows rs), .d (.lst (ws.map .int)), .d (eRows f), a4, a5, a6, a7, a8, a9, a10]) ?_ ?_ ?_
  · refine ⟨h, Same.refl _ _, rs, _, _, _, _, _, _, _, ⟨rfl, fun i r r' h1 h2 => ?_⟩, hfit, rfl⟩
    rw [h1] at h2; cases h2
    exact ⟨Int.le_refl _, (hr _ (List.mem_of_getElem? h1)).2.1, Int.le_refl _, .inl rfl⟩
  · rintro i ρ o1 hi ⟨d1, s1, f, a4, a5, a6, a7, a8, a9, a10, hn, hf, rfl⟩
    have hri := hr rs[i] (List.getElem_mem hi)
    have hfl : f.length = rs.length := hn.1
    refine ⟨_, rfl, ?_⟩
    simp [atI_nat, List.getElem?_eq_getElem hi, eRow]
    refine next_V d1 (by omega) (by omega) fun x o2 hx d2 s2 => ?_
    simp
    refine next_V d2 (by omega) (by omega) fun y o3 hy d3 s3 => ?_
    -- the row that is put in
    have put : ∀ (w : Option Int) (o4 : Om), Dc o4 → Same (· = 0) o o4 → (w = rs[i].w ∨ (rs[i].w = none ∧ ∃ p ∈ ws, w = some p)) →
        ∃ d, phi_l_fits [eRows (f.set i ⟨w, rs[i].e + x, rs[i].e + x + y⟩)] o4 = .ok d o4 ∧ ((isN d = true ∧ Nar ws rs (f.set i ⟨w, rs[i].e + x, rs[i].e + x + y⟩) ∧ Fit (f.set i ⟨w, rs[i].e + x, rs[i].e + x + y⟩)) ∨ isN d = false) := by
      intro w o4 d4 s4 hw2
      obtain ⟨d, f1, f2, f3⟩ := fits_fit (f.set i ⟨w, rs[i].e + x, rs[i].e + x + y⟩) o4 (by simp; omega)
      refine ⟨d, f1, ?_⟩
      rcases f3 with rfl | ⟨z, rfl⟩
      · refine .inl ⟨rfl, ⟨by simpa using hfl, fun j r r' h1 h2 => ?_⟩, f2.1 rfl⟩
        by_cases q : i = j
        · subst q
          rw [List.getElem?_set_self (by omega)] at h2
          cases h2
          rw [List.getElem?_eq_getElem hi] at h1
          cases h1
          exact ⟨by simp; omega, by simp; omega, by simp; omega, hw2⟩
        · rw [List.getElem?_set_ne q] at h2
          exact hn.2 j r r' h1 h2
      · exact .inr rfl
    by_cases hw0 : rs[i].w = none
    · simp [hw0, eO, isN_non]
      refine next_V d3 (by omega) (by omega) fun z o4 hz d4 s4 => ?_
      simp [eq_ints]
      by_cases q : z = 0
      · simp [q]
        refine next_V d4 (by omega) (by omega) fun j o5 hj d5 s5 => ?_
        have hj' : j < ws.length := by omega
        simp [atI_nat, List.getElem?_eq_getElem hj']
        obtain ⟨dd, f1, f2⟩ := put (some ws[j]) o5 d5 (s1.trans (s2.trans (s3.trans (s4.trans s5)))) (.inr ⟨hw0, ws[j], List.getElem_mem hj', rfl⟩)
        have er : D.tup [.int ws[j], .int (rs[i].e + x), .int (rs[i].e + x + y)] = eRow ⟨(some ws[j]), rs[i].e + x, rs[i].e + x + y⟩ := rfl
        simp [er, sl_to o5 f i (by omega), sl_from1 o5 f i (by omega), ad_1 o5 f i _ (by omega), ad_s o5 f i _ (by omega) (by omega), f1]
        rcases f2 with ⟨g1, g2, g3⟩ | g1
        · simp [g1]
          exact ⟨d5, (s1.trans (s2.trans (s3.trans (s4.trans s5)))), _, g2, g3, rfl⟩
        · simp [g1]
          exact ⟨d5, (s1.trans (s2.trans (s3.trans (s4.trans s5)))), f, hn, hf, rfl⟩
      · simp [q]
        obtain ⟨dd, f1, f2⟩ := put none o4 d4 (s1.trans (s2.trans (s3.trans s4))) (.inl hw0.symm)
        have er : D.tup [.non, .int (rs[i].e + x), .int (rs[i].e + x + y)] = eRow ⟨none, rs[i].e + x, rs[i].e + x + y⟩ := rfl
        simp [er, sl_to o4 f i (by omega), sl_from1 o4 f i (by omega), ad_1 o4 f i _ (by omega), ad_s o4 f i _ (by omega) (by omega), f1]
        rcases f2 with ⟨g1, g2, g3⟩ | g1
        · simp [g1]
          exact ⟨d4, (s1.trans (s2.trans (s3.trans s4))), _, g2, g3, rfl⟩
        · simp [g1]
          exact ⟨d4, (s1.trans (s2.trans (s3.trans s4))), f, hn, hf, rfl⟩
    · have hi0 : isN (eO rs[i].w) = false := by
        cases e : rs[i].w with
        | none => exact (hw0 e).elim
        | some v => rfl
      simp [hw0]
      obtain ⟨dd, f1, f2⟩ := put rs[i].w o3 d3 (s1.trans (s2.trans s3)) (.inl rfl)
      have er : D.tup [eO rs[i].w, .int (rs[i].e + x), .int (rs[i].e + x + y)] = eRow ⟨rs[i].w, rs[i].e + x, rs[i].e + x + y⟩ := rfl
      simp [er, sl_to o3 f i (by omega), sl_from1 o3 f i (by omega), ad_1 o3 f i _ (by omega), ad_s o3 f i _ (by omega) (by omega), f1]
      rcases f2 with ⟨g1, g2, g3⟩ | g1
      · simp [g1]
        exact ⟨d3, (s1.trans (s2.trans s3)), _, g2, g3, rfl⟩
      · simp [g1]
        exact ⟨d3, (s1.trans (s2.trans s3)), f, hn, hf, rfl⟩
  · rintro ρ o1 ⟨d1, s1, f, a4, a5, a6, a7, a8, a9, a10, hn, hf, rfl⟩
    simp
    exact k f o1 hn hf d1 s1
end KR
set_option Elab.async false
set_option linter.all false
set_option maxRecDepth 100000
set_option maxHeartbeats 2000000
namespace KR
open PySem L2
/-! ### of stretches -/
theorem soon_succ {rs : List Row} {p : Nat} (h : p < rs.length) : soon rs (p + 1) = max (soon rs p) rs[p].e := by
  unfold soon
  rw [List.take_add_one, List.getElem?_eq_getElem h, List.foldl_append]
  rfl
theorem soon_le_succ (rs : List Row) (p : Nat) : soon rs p ≤ soon rs (p + 1) := by
  by_cases h : p < rs.length
  · rw [soon_succ h]; exact Int.le_max_left _ _
  · unfold soon
    rw [List.take_of_length_le (by omega), List.take_of_length_le (by omega)]
    exact Int.le_refl _
theorem soon_mono (rs : List Row) {p q : Nat} (h : p ≤ q) : soon rs p ≤ soon rs q := by
  induction h with
  | refl => exact Int.le_refl _
  | step _ ih => exact Int.le_trans ih (soon_le_succ rs _)
theorem soon_zero (rs : List Row) : soon rs 0 = 0 := by simp [soon]
theorem le_mnL {x : Int} (h9 : x ≤ 999) : ∀ {rs : List Row}, (∀ r ∈ rs, x ≤ r.l) → x ≤ mnL rs
  | [], _ => h9
  | r :: rs, h => by
    show x ≤ min r.l (mnL rs)
    exact Int.le_min.mpr ⟨h r List.mem_cons_self, le_mnL h9 fun y hy => h y (List.mem_cons_of_mem _ hy)⟩
theorem fit_at {rs : List Row} (h : Fit rs) {p : Nat} (hp : p < rs.length) : soon rs (p + 1) ≤ rs[p].l := by
  have := h p hp
  rw [List.getElem?_eq_getElem hp] at this
  exact this
theorem soon_le_ends {rs : List Row} (h : Fit rs) (h9 : ∀ r ∈ rs, r.l ≤ 999) {p : Nat} (hp : p < rs.length) : soon rs (p + 1) ≤ ends rs p := by
  unfold ends
  rw [if_pos hp]
  refine le_mnL (Int.le_trans (fit_at h hp) (h9 _ (List.getElem_mem hp))) fun r hr => ?_
  obtain ⟨i, hi, rfl⟩ := List.mem_iff_getElem.mp hr
  rw [List.getElem_drop]
  have hi' : p + i < rs.length := by rw [List.length_drop] at hi; omega
  exact Int.le_trans (soon_mono rs (by omega)) (fit_at h hi')
/-- every moment lies in some stretch -/
theorem places_ne {rs : List Row} (h : Fit rs) (h9 : ∀ r ∈ rs, r.l ≤ 999) {m : Int} (h0 : 0 ≤ m) (h1 : m ≤ 999) : ∃ p, p ∈ places rs m := by
  have key : ∀ k q, q + k = rs.length → soon rs q ≤ m → ∃ p, p ∈ places rs m := by
    intro k
    induction k with
    | zero =>
      intro q hq hs
      refine ⟨q, mem_places.mpr ⟨by omega, hs, ?_⟩⟩
      unfold ends
      rw [if_neg (by omega)]
      omega
    | succ k ih =>
      intro q hq hs
      by_cases h2 : soon rs (q + 1) ≤ m
      · exact ih (q + 1) (by omega) h2
      · exact ⟨q, mem_places.mpr ⟨by omega, hs, by have := soon_le_ends h h9 (show q < rs.length by omega); omega⟩⟩
  exact key rs.length 0 (by omega) (by rw [soon_zero]; exact h0)
/-! ### narrower -/
theorem Nar.cons {ws : List Int} {r r' : Row} {rs rs' : List Row} (h : Nar ws (r :: rs) (r' :: rs')) : NarR ws r r' ∧ Nar ws rs rs' :=
  ⟨h.2 0 r r' rfl rfl, by simpa using h.1, fun i a b h1 h2 => h.2 (i + 1) a b (by simpa using h1) (by simpa using h2)⟩
theorem nar_soon {ws : List Int} : ∀ (rs rs' : List Row) (p : Nat) (a b : Int), Nar ws rs rs' → a ≤ b → (rs.take p).foldl (fun h r => max h r.e) a ≤ (rs'.take p).foldl (fun h r => max h r.e) b
  | [], [], p, a, b, _, h => by simpa using h
  | [], _ :: _, p, a, b, n, h => by have := n.1; simp at this
  | _ :: _, [], p, a, b, n, h => by have := n.1; simp at this
  | r :: rs, r' :: rs', 0, a, b, n, h => by simpa using h
  | r :: rs, r' :: rs', p + 1, a, b, n, h => by
    obtain ⟨n1, n2⟩ := n.cons
    simp only [List.take_succ_cons, List.foldl_cons]
    exact nar_soon rs rs' p _ _ n2 (by have := n1.1; omega)
theorem nar_mnL {ws : List Int} : ∀ (rs rs' : List Row) (p : Nat), Nar ws rs rs' → mnL (rs'.drop p) ≤ mnL (rs.drop p)
  | [], [], p, _ => by simp
  | [], _ :: _, p, n => by have := n.1; simp at this
  | _ :: _, [], p, n => by have := n.1; simp at this
  | r :: rs, r' :: rs', 0, n => by
    obtain ⟨n1, n2⟩ := n.cons
    have := nar_mnL rs rs' 0 n2
    simp only [List.drop_zero] at this ⊢
    show min r'.l (mnL rs') ≤ min r.l (mnL rs)
    have := n1.2.2.1
    omega
  | r :: rs, r' :: rs', p + 1, n => by
    simp only [List.drop_succ_cons]
    exact nar_mnL rs rs' p n.cons.2
theorem nar_ends {ws : List Int} {rs rs' : List Row} (n : Nar ws rs rs') (p : Nat) : ends rs' p ≤ ends rs p := by
  unfold ends
  rw [n.1]
  split
  · exact nar_mnL rs rs' p n
  · exact Int.le_refl _
theorem nar_places {ws : List Int} {rs rs' : List Row} (n : Nar ws rs rs') {m : Int} {p : Nat} (h : p ∈ places rs' m) : p ∈ places rs m := by
  obtain ⟨h1, h2, h3⟩ := mem_places.mp h
  refine mem_places.mpr ⟨by rw [← n.1]; exact h1, Int.le_trans (nar_soon rs rs' p 0 0 n (Int.le_refl _)) h2, Int.lt_of_lt_of_le h3 (nar_ends n p)⟩
theorem wat_succ {rs : List Row} {p : Nat} (h : p < rs.length) : wat rs (p + 1) = rs[p].w := by simp [wat, List.getElem?_eq_getElem h]
theorem nar_wat {ws : List Int} {rs rs' : List Row} (n : Nar ws rs rs') {p : Nat} (h : p ≤ rs.length) : wat rs' p = wat rs p ∨ (wat rs p = none ∧ ∃ x ∈ ws, wat rs' p = some x) := by
  cases p with
  | zero => exact .inl rfl
  | succ q =>
    have hq : q < rs.length := by omega
    have hq' : q < rs'.length := by rw [n.1]; exact hq
    rw [wat_succ hq, wat_succ hq']
    exact (n.2 q _ _ (List.getElem?_eq_getElem hq) (List.getElem?_eq_getElem hq')).2.2.2
theorem mem_whoS {rs : List Row} {m : Int} {w : Option Int} : w ∈ whoS rs m ↔ ∃ p, p ∈ places rs m ∧ wat rs p = w := List.mem_map
/-- who may have it: among those of ahead -/
theorem nar_every {ws : List Int} {rs rs' : List Row} (n : Nar ws rs rs') (m : Int) (many p : Nat) (h : p ∈ everyOf many (whoS rs' m)) : p ∈ everyOf many (whoS rs m) := by
  unfold everyOf at *
  rw [List.mem_filter] at h ⊢
  refine ⟨h.1, ?_⟩
  have h2 := h.2
  simp only [Bool.or_eq_true, List.contains_iff_mem] at h2 ⊢
  rcases h2 with h2 | h2
  · obtain ⟨q, hq, e⟩ := mem_whoS.mp h2
    have hq' := nar_places n hq
    rcases nar_wat n (mem_places.mp hq').1 with z | ⟨z, _⟩
    · exact .inl (mem_whoS.mpr ⟨q, hq', by rw [← z, e]⟩)
    · exact .inr (mem_whoS.mpr ⟨q, hq', z⟩)
  · obtain ⟨q, hq, e⟩ := mem_whoS.mp h2
    have hq' := nar_places n hq
    rcases nar_wat n (mem_places.mp hq').1 with z | ⟨z, x, hx, z2⟩
    · exact .inr (mem_whoS.mpr ⟨q, hq', by rw [← z, e]⟩)
    · rw [z2] at e; cases e
theorem sureOf_iff {ws : List (Option Int)} {x : Int} : sureOf ws = some x ↔ ws ≠ [] ∧ (∀ w ∈ ws, w = some x) ∧ 0 ≤ x := by
  cases ws with
  | nil => simp [sureOf]
  | cons w r =>
    cases w with
    | none =>
      constructor
      · intro h; cases h
      · rintro ⟨_, h, _⟩
        have := h none List.mem_cons_self
        cases this
    | some y =>
      have e0 : sureOf (some y :: r) = if (r.all (· == some y) && decide (0 ≤ y)) = true then some y else none := rfl
      rw [e0]
      constructor
      · intro h
        split at h
        · rename_i q
          cases h
          rw [Bool.and_eq_true, List.all_eq_true, decide_eq_true_eq] at q
          refine ⟨by simp, fun w hw => ?_, q.2⟩
          rcases List.mem_cons.mp hw with e | e
          · exact e
          · exact eq_of_beq (q.1 w e)
        · cases h
      · rintro ⟨_, h, h0⟩
        have e := h (some y) List.mem_cons_self
        cases e
        rw [if_pos]
        rw [Bool.and_eq_true, List.all_eq_true, decide_eq_true_eq]
        exact ⟨fun w hw => by rw [h w (List.mem_cons_of_mem _ hw)]; exact beq_self_eq_true _, h0⟩
theorem whoS_ne {rs : List Row} (h : Fit rs) (h9 : ∀ r ∈ rs, r.l ≤ 999) {m : Int} (h0 : 0 ≤ m) (h1 : m ≤ 999) : whoS rs m ≠ [] := by
  obtain ⟨p, hp⟩ := places_ne h h9 h0 h1
  intro e
  have := mem_whoS.mpr ⟨p, hp, rfl⟩
  rw [e] at this
  cases this
/-- who surely had it has it still -/
theorem nar_sure {ws : List Int} {rs rs' : List Row} (n : Nar ws rs rs') (hf : Fit rs') (h9 : ∀ r ∈ rs', r.l ≤ 999) {m : Int} (h0 : 0 ≤ m) (h1 : m ≤ 999) {x : Int} (h : sureOf (whoS rs m) = some x) : sureOf (whoS rs' m) = some x := by
  obtain ⟨_, h2, h3⟩ := sureOf_iff.mp h
  refine sureOf_iff.mpr ⟨whoS_ne hf h9 h0 h1, fun w hw => ?_, h3⟩
  obtain ⟨q, hq, e⟩ := mem_whoS.mp hw
  have hq' := nar_places n hq
  have hx := h2 _ (mem_whoS.mpr ⟨q, hq', rfl⟩)
  rcases nar_wat n (mem_places.mp hq').1 with z | ⟨z, _⟩
  · rw [← e, z, hx]
  · rw [z] at hx; cases hx
theorem mem_kinds {rs : List Row} {m : Int} {x : Int} : x ∈ kindsOf rs m ↔ ∃ p, p ∈ places rs m ∧ watI rs p = x := by
  unfold kindsOf
  rw [(srtI_perm _).mem_iff, mem_dd, List.mem_map]
theorem kinds_ne {rs : List Row} (h : Fit rs) (h9 : ∀ r ∈ rs, r.l ≤ 999) {m : Int} (h0 : 0 ≤ m) (h1 : m ≤ 999) : ∃ x, x ∈ kindsOf rs m := by
  obtain ⟨p, hp⟩ := places_ne h h9 h0 h1
  exact ⟨_, mem_kinds.mpr ⟨p, hp, rfl⟩⟩
theorem nar_kinds {ws : List Int} {rs rs' : List Row} (n : Nar ws rs rs') (hd : Door rs) (m : Int) {x : Int} (h : x ∈ kindsOf rs' m) : x ∈ kindsOf rs m := by
  obtain ⟨p, hp, e⟩ := mem_kinds.mp h
  have hp' := nar_places n hp
  refine mem_kinds.mpr ⟨p, hp', ?_⟩
  rcases nar_wat n (mem_places.mp hp').1 with z | ⟨z, _⟩
  · unfold watI at *; rw [← z]; exact e
  · rw [wat_door hd (mem_places.mp hp').1] at z; cases z
theorem nar_copd {ws : List Int} {rs rs' : List Row} (n : Nar ws rs rs') (person : Nat) (m : Int) (h : copd rs' person m = true) : copd rs person m = true := by
  unfold copd at *
  rw [List.any_eq_true] at h ⊢
  obtain ⟨i, hi, hc⟩ := h
  have hi' : i < rs'.length := List.mem_range.mp hi
  have hi2 : i < rs.length := by rw [← n.1]; exact hi'
  refine ⟨i, List.mem_range.mpr hi2, ?_⟩
  unfold cop at *
  rw [List.getElem?_eq_getElem hi'] at hc
  rw [List.getElem?_eq_getElem hi2]
  simp only [Bool.and_eq_true, Bool.or_eq_true, beq_iff_eq, decide_eq_true_eq] at hc ⊢
  obtain ⟨c1, c2, c3⟩ := hc
  have s1 := nar_soon rs rs' (i + 1) 0 0 n (Int.le_refl _)
  have e1 := nar_ends n (i + 1)
  have s1' : soon rs (i + 1) ≤ soon rs' (i + 1) := s1
  refine ⟨?_, by omega, by omega⟩
  rcases (n.2 i _ _ (List.getElem?_eq_getElem hi2) (List.getElem?_eq_getElem hi')).2.2.2 with z | ⟨z, _⟩
  · rw [← z]; exact c1
  · exact .inl z
end KR
set_option Elab.async false
set_option linter.all false
set_option maxRecDepth 100000
set_option maxHeartbeats 4000000
namespace KR
open PySem L2
theorem caseOk_book {persons nk nr nd : Nat} {far : Int} {keys : List Key} {doors : List (List Row)} (hc : CaseOk persons far nk nr nd keys doors) (hp : 1 ≤ persons ∧ persons ≤ 8) (h1 : nk ≤ 6) (h2 : nr ≤ 8) (h3 : nd ≤ 4) : Ok ⟨persons, doors, keys⟩ := by
  have := hc.kl
  have := hc.dl
  exact ⟨hp, by show 1 ≤ doors.length ∧ doors.length ≤ 4; omega, by show keys.length ≤ 6; omega, fun k hk => (hc.ks k hk).len, fun k hk => Nat.le_trans (hc.ks k hk).rl h2, fun rs hr => ⟨Nat.le_trans (hc.ds rs hr).rl h2, fun r hr2 => by
    obtain ⟨k, hk, _⟩ := (hc.ds rs hr).kind r hr2
    exact ⟨k, hk⟩⟩⟩
theorem everyOf_len (n : Nat) (ws : List (Option Int)) : (everyOf n ws).length ≤ n := by
  unfold everyOf
  exact Nat.le_trans (List.length_filter_le _ _) (by simp)
theorem whoCan_len (B : Bk) (kinds : List Int) (m : Int) (w : Str) : (whoCan B kinds m w).length ≤ B.many := by
  unfold whoCan
  exact Nat.le_trans (List.length_filter_le _ _) (by simp)
@[simp] theorem ev_BM0 (op : List D → List D → Option (List D × D)) (g : DE) (ρ : Rho) (o : Om) : dBM0 op g ρ o = (g ρ o).bind fun x o2 => match hv o2 x with
  | some (n, xs) => match op xs [] with
    | some (ys, z) => .ok z (o2.set n (.ml ys))
    | none => .bad
  | none => .bad := rfl
/-! values of rows, of places -/
theorem nat_eO (ns : List Nat) : ns.map eN = (ns.map fun p : Nat => some (p : Int)).map eO := by rw [List.map_map]; rfl
theorem whoS_mem {rs : List Row} {m : Int} {x : Int} (h : some x ∈ whoS rs m) : x = -1 ∨ ∃ r ∈ rs, r.w = some x := by
  obtain ⟨p, hp, e⟩ := mem_whoS.mp h
  cases p with
  | zero => exact .inl (by simpa [wat] using e.symm)
  | succ q =>
    have hq : q < rs.length := by have := (mem_places.mp hp).1; omega
    rw [wat_succ hq] at e
    exact .inr ⟨_, List.getElem_mem hq, e⟩
def pO : Option Int → PyData
  | none => .none
  | some i => .int i
theorem toPy_eO (o : Om) (k : Nat) (w : Option Int) : toPy o (k + 1) (eO w) = some (pO w) := by cases w <;> rfl
theorem toPy_eN (o : Om) (k : Nat) (ns : List Nat) : (ns.map eN).mapM (toPy o (k + 1)) = some (ns.map fun p : Nat => PyData.int p) := by rw [map_eN, toPy_ints, List.map_map]; rfl
theorem dcl_same {o o' : Om} (s : Same (fun _ => False) o o') (h : Dc o) : Dc o' := h.same s fun z => z
theorem app_same (o e : Om) : Same (fun _ => False) o (o ++ e) := Same.app _ _ _
theorem toPy_obj {o : Om} {n k : Nat} {xs : List D} (h : o[n]? = some (.ml xs)) : toPy o (k + 1) (.obj n) = (xs.mapM (toPy o k)).map .list := by
  show (match o[n]? with | some (.ml xs) => (xs.mapM (toPy o k)).map PyData.list | _ => none) = _
  rw [h]
theorem toPy_tup2 {o : Om} {k : Nat} {a b : D} {p q : PyData} (h1 : toPy o k a = some p) (h2 : toPy o k b = some q) : toPy o (k + 1) (.tup [a, b]) = some (.tuple [p, q]) := by
  rw [toPy_tup, List.mapM_cons, h1, List.mapM_cons, h2]; rfl
theorem lst_eN (o : Om) (k : Nat) (ns : List Nat) : toPy o (k + 2) (.lst (ns.map eN)) = some (.list (ns.map fun p : Nat => PyData.int p)) := by rw [toPy_lst, toPy_eN]; rfl
theorem obj_eN {o : Om} {n : Nat} (k : Nat) {ns : List Nat} (h : o[n]? = some (.ml (ns.map eN))) : toPy o (k + 2) (.obj n) = some (.list (ns.map fun p : Nat => PyData.int p)) := by rw [toPy_obj h, toPy_eN]; rfl
theorem lst_intK (o : Om) (k : Nat) (ns : List Int) : toPy o (k + 2) (.lst (ns.map .int)) = some (.list (ns.map .int)) := by rw [toPy_lst, toPy_ints]; rfl
theorem obj_intK {o : Om} {n : Nat} (k : Nat) {ns : List Int} (h : o[n]? = some (.ml (ns.map .int))) : toPy o (k + 2) (.obj n) = some (.list (ns.map .int)) := by rw [toPy_obj h, toPy_ints]; rfl
end KR
set_option Elab.async false
set_option linter.all false
set_option maxRecDepth 100000
set_option maxHeartbeats 4000000
namespace KR
open PySem L2
section
variable {o : Om} {b persons hk hd : Nat} {ks : Ks} {ds : Ds} {B : Bk} {N : Rho → Om → Prop} {T : D → Om → Prop} {X : Xc → Om → Prop}
theorem mapM_all {α β : Type} {f : α → Option β} : ∀ {xs : List α}, (∀ x ∈ xs, ∃ p, f x = some p) → ∃ ps, xs.mapM f = some ps ∧ ps.length = xs.length
  | [], _ => ⟨[], rfl, rfl⟩
  | x :: xs, h => by
    obtain ⟨p, hp⟩ := h x List.mem_cons_self
    obtain ⟨ps, h1, h2⟩ := mapM_all (xs := xs) fun y hy => h y (List.mem_cons_of_mem _ hy)
    exact ⟨p :: ps, by simp [hp, h1], by simp [h2]⟩
theorem ne_obj_nil {n : Nat} {xs : List D} (h : o[n]? = some (.ml xs)) (ht : ∀ x ∈ xs, ∃ p, toPy o 8 x = some p) : opNe o (.obj n) (.lst []) = some (.bl (!xs.isEmpty)) := by
  obtain ⟨ps, h1, h2⟩ := mapM_all ht
  have e : toPy o 9 (.obj n) = some (.list ps) := by rw [toPy_obj h, h1]; rfl
  rw [opNe_of e (lst_nil o)]
  show some (D.bl (!PyData.eqvAll ps [])) = _
  rw [eqvAll_nil]
  congr 3
  cases ps with
  | nil => cases xs with
    | nil => rfl
    | cons _ _ => simp at h2
  | cons _ _ => cases xs with
    | nil => simp at h2
    | cons _ _ => rfl
theorem toPy_eRow (o : Om) (k : Nat) (r : Row) : toPy o (k + 2) (eRow r) = some (.tuple [pO r.w, .int r.e, .int r.l]) := by
  unfold eRow
  rw [toPy_tup]
  simp [toPy_eO, toPy_int]
theorem toPy_eSK {k : Key × Nat} (h : o[k.2]? = some (.ml (k.1.rows.map eRow))) : ∃ p, toPy o 8 (eSK k) = some p := by
  obtain ⟨ps, h1, _⟩ := mapM_all (f := toPy o 6) (xs := k.1.rows.map eRow) fun x hx => by
    obtain ⟨r, _, rfl⟩ := List.mem_map.mp hx
    exact ⟨_, toPy_eRow o 4 r⟩
  have e1 : toPy o 7 (.obj k.2) = some (.list ps) := by rw [toPy_obj h, h1]; rfl
  have e2 : toPy o 7 (eTs k.1.opens) = some (.tuple (k.1.opens.map .int)) := by
    unfold eTs
    rw [toPy_tup, toPy_ints]; rfl
  have e3 : toPy o 7 (.bl k.1.plain) = some (.bool k.1.plain) := rfl
  unfold eSK
  rw [toPy_tup]
  simp [e1, e2, e3]
/-- an entry as it is drawn -/
structure DRow (P : Int → Prop) (r : Row) : Prop where
  e0 : 0 ≤ r.e
  el : r.e ≤ r.l
  l2 : r.l ≤ 20
  w : ∀ i, r.w = some i → P i
/-- the book behind the putting in of a key's entry, a door's -/
def putK (B : Bk) (j : Nat) (k : Key) (place : Nat) (r : Row) : Bk := if refused k.rows place r = none then setKey B j ⟨k.opens, k.plain, ins k.rows place r⟩ else B
def putD' (B : Bk) (j : Nat) (rs : List Row) (place : Nat) (r : Row) : Bk := if refused rs place r = none then setDoor B j (ins rs place r) else B
theorem thand_W {a2 a7 a8 a11 a12 a13 a14 a15 a16 a17 : EV} {way : D} {e l : Int} (s : StoryAt o "_law_turn" b persons hk hd ks ds) (hne : ks ≠ []) (h0 : 0 ≤ e) (h1 : e ≤ l) (h2 : l ≤ 20)
    (k : ∀ o' (j : Nat) (key : Key × Nat) (place : Nat) (r : Row) b11 b14, ks[j]? = some key → place ≤ key.1.rows.length → DRow (fun i => 0 ≤ i ∧ i < persons) r → StAt o' "_law_turn" b persons hk hd ks ds (putK (caseB persons ks ds) j key.1 place r) →
      N [.d (.obj 1), .d (.obj b), a2, .d (.int persons), .d (.obj hk), .d (.obj hd), .d way, a7, a8, .d (.int e), .d (.int l), b11, .d (.obj key.2), .d (.int place), b14, .d (eRow r), a16, a17] o') :
    W N T X (den_thand [.d (.obj 1), .d (.obj b), a2, .d (.int persons), .d (.obj hk), .d (.obj hd), .d way, a7, a8, .d (.int e), .d (.int l), a11, a12, a13, a14, a15, a16, a17] o) := by
  unfold den_thand
  have pos : 0 < ks.length := List.length_pos_iff.mpr hne
  have kl := s.case.kl
  simp [qv_obj s.case.keys]
  refine next_h s.dc (by omega) (by omega) fun j o1 hj d1 m1 => ?_
  have s1 := s.dice d1 m1
  have hj' : j < ks.length := by omega
  have hk' : ks[j]? = some ks[j] := List.getElem?_eq_getElem hj'
  have km := List.getElem_mem hj'
  generalize ks[j] = key at hk' km
  have rl := (s.case.sk key km).rl
  have q1 := qv_obj (s1.case.krow key km)
  simp [qv_obj s1.case.keys, atI_nat, hk', eSK, q1]
  refine next_h s1.dc (by omega) (by omega) fun place o2 hpl d2 m2 => ?_
  have s2 := s1.dice d2 m2
  have pl4 := s.pl
  have mul2 : ∀ o : Om, opMul o (.int 2) (.int (persons : Int)) = some (.int (2 * persons)) := fun o => by
    show (if (-(2 ^ 64) < (2 : Int) ∧ (2 : Int) < 2 ^ 64) ∨ (-(2 ^ 64) < (persons : Int) ∧ (persons : Int) < 2 ^ 64) then some (D.int (2 * persons)) else none) = _
    exact if_pos (.inl (by decide))
  simp [lrg o2 persons (by omega), mul2]
  obtain ⟨L, w0, g1, g2, _, _⟩ := who_at persons pl4.2 0 (by omega) o2
  have ad : opAdd o2 (.lst [D.non]) (.lst L) = some (.lst (D.non :: L)) := by
    rw [op_addL (by simp; omega)]; rfl
  simp [g1, ad]
  refine next_h s2.dc (by omega) (by omega) fun i o3 hi d3 m3 => ?_
  have s3 := s2.dice d3 m3
  obtain ⟨L', w, g1', _, g3, g4⟩ := who_at persons pl4.2 i (by omega) o2
  rw [g1] at g1'
  cases g1'
  simp [g3]
  have hv : ValidRow ⟨w, e, l⟩ := ⟨h0, h1, by show l ≤ 999; omega⟩
  have hB : (caseB persons ks ds).keys[j]? = some key.1 := by simp [caseB, hk']
  have dr : DRow (fun i => 0 ≤ i ∧ i < (persons : Int)) ⟨w, e, l⟩ := ⟨h0, h1, h2, fun i e => g4 i e⟩
  have fb : fv o3 (.obj b) = some (b, bkF b persons) := s3.bk.fv
  refine told_V s3.tb ?_
  simp [fb]
  rcases hand3 s3.bk j key.1 hB place (by omega) rl ⟨w, e, l⟩ g4 hv with ⟨rn, o4, e4, B4, m4⟩ | ⟨x, rn, e4⟩
  · have e4' : phi_Book_hand_v2 [.obj b, .int j, .int place, eO w, .int e, .int l] o3 = .ok .non o4 := e4
    refine .inl ⟨.non, o4, e4', ?_⟩
    refine k o4 j key place ⟨w, e, l⟩ _ _ hk' (by omega) dr ?_
    unfold putK
    rw [if_pos rn]
    exact s3.book B4 m4
  · have e4' : phi_Book_hand_v2 [.obj b, .int j, .int place, eO w, .int e, .int l] o3 = .exc x o3 := e4
    refine .inr ⟨x, o3, e4', ?_⟩
    refine k o3 j key place ⟨w, e, l⟩ _ _ hk' (by omega) dr ?_
    unfold putK
    rw [if_neg (by rw [rn]; simp)]
    exact s3
theorem tfit_W {a2 a7 a8 a11 a12 a13 a14 a15 a16 a17 : EV} {way : D} {e l : Int} (s : StoryAt o "_law_turn" b persons hk hd ks ds) (h0 : 0 ≤ e) (h1 : e ≤ l) (h2 : l ≤ 20)
    (k : ∀ o' (j : Nat) (d : List Row × Nat) (place : Nat) (r : Row) b16 b17, ds[j]? = some d → place ≤ d.1.length → DRow (fun i => 0 ≤ i ∧ i ≤ 9) r → r.w ≠ none → StAt o' "_law_turn" b persons hk hd ks ds (putD' (caseB persons ks ds) j d.1 place r) →
      N [.d (.obj 1), .d (.obj b), a2, .d (.int persons), .d (.obj hk), .d (.obj hd), .d way, a7, a8, .d (.int e), .d (.int l), a11, .d (.obj d.2), .d (.int place), a14, .d (eRow r), b16, b17] o') :
    W N T X (den_tfit [.d (.obj 1), .d (.obj b), a2, .d (.int persons), .d (.obj hk), .d (.obj hd), .d way, a7, a8, .d (.int e), .d (.int l), a11, a12, a13, a14, a15, a16, a17] o) := by
  unfold den_tfit
  have dl := s.dl
  simp [qv_obj s.case.doors]
  refine next_h s.dc (by omega) (by omega) fun j o1 hj d1 m1 => ?_
  have s1 := s.dice d1 m1
  have hj' : j < ds.length := by omega
  have hk' : ds[j]? = some ds[j] := List.getElem?_eq_getElem hj'
  have km := List.getElem_mem hj'
  generalize ds[j] = d at hk' km
  have rl := (s.case.sd d km).rl
  have q1 := qv_obj (s1.case.drow d km)
  simp [qv_obj s1.case.doors, atI_nat, hk', q1]
  refine next_h s1.dc (by omega) (by omega) fun place o2 hpl d2 m2 => ?_
  have s2 := s1.dice d2 m2
  refine next_h s2.dc (by omega) (by omega) fun c o3 hc d3 m3 => ?_
  have s3 := s2.dice d3 m3
  have ⟨n, hn, n0, n1⟩ : ∃ n : Nat, L2.atI [D.int 3, D.int 10] (c : Int) = some (.int (n : Int)) ∧ 0 < n ∧ n ≤ 10 := by
    rw [atI_nat]
    match c, hc with
    | 0, _ => exact ⟨3, rfl, by decide, by decide⟩
    | 1, _ => exact ⟨10, rfl, by decide, by decide⟩
    | n + 2, hi => omega
  simp [hn]
  refine next_h s3.dc (by omega) (by omega) fun kd o4 hkd d4 m4 => ?_
  have s4 := s3.dice d4 m4
  have hv : ValidRow ⟨some (kd : Int), e, l⟩ := ⟨h0, h1, by show l ≤ 999; omega⟩
  have hB : (caseB persons ks ds).doors[j]? = some d.1 := by simp [caseB, hk']
  have dr : DRow (fun i => 0 ≤ i ∧ i ≤ 9) ⟨some (kd : Int), e, l⟩ := ⟨h0, h1, h2, fun i e => by cases e; omega⟩
  have fb : fv o4 (.obj b) = some (b, bkF b persons) := s4.bk.fv
  refine told_V s4.tb ?_
  simp [fb]
  rcases fit3 s4.bk j d.1 hB place (by omega) rl ⟨some (kd : Int), e, l⟩ kd rfl (by omega) hv with ⟨rn, o5, e5, B5, m5⟩ | ⟨x, rn, e5⟩
  · have e5' : phi_Book_fit_v2 [.obj b, .int j, .int place, .int (kd : Int), .int e, .int l] o4 = .ok .non o5 := e5
    refine .inl ⟨.non, o5, e5', ?_⟩
    refine k o5 j d place ⟨some (kd : Int), e, l⟩ _ _ hk' (by omega) dr (by simp) ?_
    unfold putD'
    rw [if_pos rn]
    exact s4.book B5 m5
  · have e5' : phi_Book_fit_v2 [.obj b, .int j, .int place, .int (kd : Int), .int e, .int l] o4 = .exc x o4 := e5
    refine .inr ⟨x, o4, e5', ?_⟩
    refine k o4 j d place ⟨some (kd : Int), e, l⟩ _ _ hk' (by omega) dr (by simp) ?_
    unfold putD'
    rw [if_neg (by rw [rn]; simp)]
    exact s4
theorem turn_V {Q : D → Om → Prop} (s : StoryAt o "_law_turn" b persons hk hd ks ds) (k : ∀ o' ks' ds', StoryAt o' "_law_turn" b persons hk hd ks' ds' → ds'.length = ds.length → Q .non o') :
    V Q X (phi_l_turn [.obj 1, .obj b, .tup [.int persons, .obj hk, .obj hd]] o) := by
  refine def_V ?_
  rw [den_turn_split]
  simp
  refine next_h s.dc (by omega) (by omega) fun way o1 hw d1 m1 => ?_
  refine tcut_W (s.dice d1 m1) fun o2 ks2 b7 b8 s2 => ?_
  simp
  refine next_h s2.dc (by omega) (by omega) fun c o3 hc d3 m3 => ?_
  have s3 := s2.dice d3 m3
  have ⟨n, hn, n0, n1⟩ : ∃ n : Int, L2.atI [D.int 8, D.int 20] (c : Int) = some (.int n) ∧ 0 ≤ n ∧ n ≤ 20 := by
    rw [atI_nat]
    match c, hc with
    | 0, _ => exact ⟨8, rfl, by decide, by decide⟩
    | 1, _ => exact ⟨20, rfl, by decide, by decide⟩
    | n + 2, hi => omega
  simp [hn]
  refine window_h s3.dc n0 (by omega) fun e l o4 e0 el l2 d4 m4 => ?_
  have s4 := s3.dice d4 m4
  have goK : ks2 ≠ [] → ∀ (a2 a11 a12 a13 a14 a15 a16 a17 : EV), W (fun ρ o => W (fun _ o1 => Q .non o1) Q X (den_tins ρ o)) Q X (den_thand [.d (.obj 1), .d (.obj b), a2, .d (.int persons), .d (.obj hk), .d (.obj hd), .d (.int way), b7, b8, .d (.int e), .d (.int l), a11, a12, a13, a14, a15, a16, a17] o4) := by
    intro hne a2 a11 a12 a13 a14 a15 a16 a17
    refine thand_W s4 hne e0 el (by omega) fun o5 j key place r b11 b14 hj hp dr s5 => ?_
    have km := List.mem_of_getElem? hj
    have sk := s5.case.sk key km
    refine tins_W (rs := key.1.rows) (h := key.2) (place := place) (r := r) (s5.case.krow key km) sk.rl hp rfl rfl rfl (fun rn => ?_) fun rn => ?_
    · obtain ⟨c8, hf⟩ := refused_none.mp rn
      have ok : SKey persons ⟨key.1.opens, key.1.plain, ins key.1.rows place r⟩ := ⟨sk.so, sk.ol, sk.ok, by show (ins key.1.rows place r).length ≤ 8; rw [ins_len]; omega, hf, fun x hx => by
        rcases mem_ins hx with z | z
        · rw [z]; exact ⟨dr.e0, dr.el, dr.l2⟩
        · exact sk.row x z, fun x hx => by
        rcases mem_ins hx with z | z
        · rw [z]; exact dr.w
        · exact sk.who x z⟩
      have s6 := s5.insK j key hj (ins key.1.rows place r) ok
      have eB : putK (caseB persons ks2 ds) j key.1 place r = caseB persons (ks2.set j (⟨key.1.opens, key.1.plain, ins key.1.rows place r⟩, key.2)) ds := by
        unfold putK
        rw [if_pos rn]
        simp [setKey, caseB, List.map_set]
      rw [eB] at s6
      exact k _ _ ds s6 rfl
    · have eB : putK (caseB persons ks2 ds) j key.1 place r = caseB persons ks2 ds := if_neg rn
      rw [eB] at s5
      exact k _ _ ds s5 rfl
  have goD : ∀ (a2 a11 a12 a13 a14 a15 a16 a17 : EV), W (fun ρ o => W (fun _ o1 => Q .non o1) Q X (den_tins ρ o)) Q X (den_tfit [.d (.obj 1), .d (.obj b), a2, .d (.int persons), .d (.obj hk), .d (.obj hd), .d (.int way), b7, b8, .d (.int e), .d (.int l), a11, a12, a13, a14, a15, a16, a17] o4) := by
    intro a2 a11 a12 a13 a14 a15 a16 a17
    refine tfit_W s4 e0 el (by omega) fun o5 j d place r b16 b17 hj hp dr hw s5 => ?_
    have km := List.mem_of_getElem? hj
    have sk := s5.case.sd d km
    refine tins_W (rs := d.1) (h := d.2) (place := place) (r := r) (s5.case.drow d km) sk.rl hp rfl rfl rfl (fun rn => ?_) fun rn => ?_
    · obtain ⟨c8, hf⟩ := refused_none.mp rn
      have ok : SDoor (ins d.1 place r) := ⟨by rw [ins_len]; omega, hf, fun x hx => by
        rcases mem_ins hx with z | z
        · rw [z]; exact ⟨dr.e0, dr.el, dr.l2⟩
        · exact sk.row x z, fun x hx => by
        rcases mem_ins hx with z | z
        · rw [z]
          cases q : r.w with
          | none => exact (hw q).elim
          | some i => exact ⟨i, rfl, dr.w i q⟩
        · exact sk.kd x z⟩
      have s6 := s5.insD j d hj (ins d.1 place r) ok
      have eB : putD' (caseB persons ks2 ds) j d.1 place r = caseB persons ks2 (ds.set j (ins d.1 place r, d.2)) := by
        unfold putD'
        rw [if_pos rn]
        simp [setDoor, caseB, List.map_set]
      rw [eB] at s6
      exact k _ _ _ s6 (by simp)
    · have eB : putD' (caseB persons ks2 ds) j d.1 place r = caseB persons ks2 ds := if_neg rn
      rw [eB] at s5
      exact k _ _ ds s5 rfl
  have kq := qv_obj s4.case.keys
  have ne : opNe o4 (.obj hk) (.lst []) = some (.bl (!ks2.isEmpty)) := by
    rw [ne_obj_nil s4.case.keys fun x hx => ?_]
    · cases ks2 <;> rfl
    · obtain ⟨k, hk', rfl⟩ := List.mem_map.mp hx
      exact toPy_eSK (s4.case.krow k hk')
  simp [ne]
  by_cases c1 : way < 4
  · have c1' : (way : Int) < 4 := by omega
    cases ks2 with
    | nil => simp [c1']; exact goD _ _ _ _ _ _ _ _
    | cons x y => simp [c1']; exact goK (by simp) _ _ _ _ _ _ _ _
  · have c1' : ¬ (way : Int) < 4 := by omega
    simp [c1']
    exact goD _ _ _ _ _ _ _ _
end
end KR
set_option Elab.async false
set_option linter.all false
set_option maxRecDepth 100000
set_option maxHeartbeats 4000000
namespace KR
open PySem L2
/-! ### the story -/
section
variable {o : Om} {X : Xc → Om → Prop}
theorem range_snoc (n : Nat) : List.range (n + 1) = List.range n ++ [n] := List.range_succ
/-- the own case and its book, all empty -/
theorem story_begin {o : Om} {t : Str} (tb : (o[0]? : Option MO) = some (.tb t)) (dc : Dch 1 o) (persons many : Nat) (hp : 1 ≤ persons ∧ persons ≤ 4) (hm : 1 ≤ many ∧ many ≤ 2) :
    StoryAt (o ++ (MO.ml [] :: (List.replicate many (MO.ml []) ++ [MO.ml ((List.range many).map fun i => D.obj (o.length + 1 + i))])) ++ bkO (o.length + 1 + many + 1) ⟨persons, List.replicate many [], []⟩) t (o.length + 1 + many + 1) persons o.length (o.length + 1 + many) [] ((List.range many).map fun i => ([], o.length + 1 + i)) := by
  obtain ⟨z1, z2, z3, z4, z5, z6⟩ := dc
  have l2 : 1 < o.length := lt_of_some z5
  have l0 : 0 < o.length := by omega
  have ee : o ++ (MO.ml [] :: (List.replicate many (MO.ml []) ++ [MO.ml ((List.range many).map fun i => D.obj (o.length + 1 + i))])) ++ bkO (o.length + 1 + many + 1) ⟨persons, List.replicate many [], []⟩ = o ++ (MO.ml [] :: (List.replicate many (MO.ml []) ++ (MO.ml ((List.range many).map fun i => D.obj (o.length + 1 + i)) :: bkO (o.length + 1 + many + 1) ⟨persons, List.replicate many [], []⟩))) := by simp
  have lo : ∀ i, i < o.length → (o ++ (MO.ml [] :: (List.replicate many (MO.ml []) ++ [MO.ml ((List.range many).map fun i => D.obj (o.length + 1 + i))])) ++ bkO (o.length + 1 + many + 1) ⟨persons, List.replicate many [], []⟩)[i]? = o[i]? := fun i hi => by rw [ee, List.getElem?_append_left hi]
  have l1 : (o ++ (MO.ml [] :: (List.replicate many (MO.ml []) ++ [MO.ml ((List.range many).map fun i => D.obj (o.length + 1 + i))]))).length = o.length + 1 + many + 1 := by simp; omega
  have bk := bkAt_new (o ++ (MO.ml [] :: (List.replicate many (MO.ml []) ++ [MO.ml ((List.range many).map fun i => D.obj (o.length + 1 + i))]))) ⟨persons, List.replicate many [], []⟩
  rw [l1] at bk
  have eB : caseB persons [] ((List.range many).map fun i => ([], o.length + 1 + i)) = ⟨persons, List.replicate many [], []⟩ := by
    unfold caseB
    congr 1
    rw [List.map_map]
    apply List.ext_getElem?
    intro i
    rw [List.getElem?_map, List.getElem?_replicate]
    by_cases h : i < many
    · rw [List.getElem?_range h, if_pos h]; rfl
    · rw [List.getElem?_eq_none (by simp; omega), if_neg h]; rfl
  refine ⟨(lo 0 l0).trans tb, ⟨z1, z2, z3, z4, (lo 1 l2).trans z5, z6⟩, ⟨?_, fun k h => (nomatch h), ?_, ?_, fun k h => (nomatch h), ?_, by simp, by simp, ?_⟩, by rw [eB]; exact bk, ⟨l2, by omega⟩, ⟨by omega, by omega, by omega⟩, ?_, fun k h => (nomatch h), hp, by simpa using hm⟩
  · rw [ee, List.getElem?_append_right (Nat.le_refl _)]; simp
  · rw [ee, List.getElem?_append_right (by omega)]
    have e : o.length + 1 + many - o.length = many + 1 := by omega
    rw [e, List.getElem?_cons_succ, List.getElem?_append_right (by simp)]
    simp
  · intro d hd
    obtain ⟨i, hi, rfl⟩ := List.mem_map.mp hd
    have := List.mem_range.mp hi
    show (_ : Om)[o.length + 1 + i]? = some (.ml [])
    rw [ee, List.getElem?_append_right (by omega)]
    have e : o.length + 1 + i - o.length = i + 1 := by omega
    rw [e, List.getElem?_cons_succ, List.getElem?_append_left (by simpa using this), List.getElem?_replicate, if_pos this]
  · intro d hd
    obtain ⟨i, hi, rfl⟩ := List.mem_map.mp hd
    exact ⟨by simp, fun p hp => by simp at hp, fun r hr => (nomatch hr), fun r hr => (nomatch hr)⟩
  · rw [List.map_map]
    refine List.pairwise_map.mpr (List.nodup_range.imp fun h e => h ?_)
    have e : o.length + 1 + _ = o.length + 1 + _ := e
    omega
  · intro d hd
    obtain ⟨i, hi, rfl⟩ := List.mem_map.mp hd
    have := List.mem_range.mp hi
    show 1 < o.length + 1 + i ∧ o.length + 1 + i < o.length + 1 + many + 1 ∧ o.length + 1 + i ≠ o.length ∧ o.length + 1 + i ≠ o.length + 1 + many
    omega
theorem story_V {Q : D → Om → Prop} {most : Int} (tb : (o[0]? : Option MO) = some (.tb "_law_turn")) (dc : Dch 1 o) (hm : 0 < most ∧ most ≤ 1000)
    (k : ∀ o' b persons hk hd ks ds, o.length ≤ o'.length → StoryAt o' "_law_turn" b persons hk hd ks ds → Q (eHC persons hk hd) o') : V Q X (phi_l_story [.obj 1, .int most] o) := by
  refine def_V ?_
  unfold den_l_story
  simp
  refine next_h dc (by omega) (by omega) fun p o1 hp d1 m1 => ?_
  refine next_h d1 (by omega) (by omega) fun q o2 hq d2 m2 => ?_
  have tb2 : (o2[0]? : Option MO) = some (.tb "_law_turn") := by
    have e1 := (m1.2 0 (lt_of_some tb) (by omega)).trans tb
    exact (m2.2 0 (lt_of_some e1) (by omega)).trans e1
  have ln := Nat.le_trans m1.1 m2.1
  have q1 : (-100000 : Int) ≤ 1 + q := by omega
  have q2 : (1 : Int) + q ≤ 100000 := by omega
  have q3 : ((1 : Int) + q).toNat = 1 + q := by omega
  simp [q1, q2, q3]
  refine V_crng (1 + q) (by omega) (fun r acc o5 => ∃ n, n + r.length = 1 + q ∧ o5 = o2 ++ (MO.ml [] :: List.replicate n (MO.ml [])) ∧ acc = (List.range n).map fun i => D.obj (o2.length + 1 + i)) ⟨0, by simp, rfl, rfl⟩ ?_ ?_
  · rintro x r acc o5 ⟨n, hn, rfl, rfl⟩
    refine ⟨_, rfl, ?_⟩
    simp [wipeE]
    refine ⟨n + 1, by simp at hn ⊢; omega, ?_, ?_⟩
    · rw [List.replicate_succ']
    · rw [range_snoc, List.map_append]
      simp
      omega
  · rintro acc o5 ⟨n, hn, rfl, rfl⟩
    have en : n = 1 + q := by simpa using hn
    subst en
    have st := story_begin tb2 d2 (1 + p) (1 + q) (by omega) (by omega)
    have l1 : (o2 ++ (MO.ml [] :: (List.replicate (1 + q) (MO.ml []) ++ [MO.ml ((List.range (1 + q)).map fun i => D.obj (o2.length + 1 + i))]))).length = o2.length + 1 + (1 + q) + 1 := by simp; omega
    have mk := init_eq (o2 ++ (MO.ml [] :: (List.replicate (1 + q) (MO.ml []) ++ [MO.ml ((List.range (1 + q)).map fun i => D.obj (o2.length + 1 + i))]))) (1 + p) (1 + q) (by omega) (by omega)
    rw [l1] at mk
    have hd : (o2 ++ (MO.ml [] :: List.replicate (1 + q) (MO.ml []))).length = o2.length + 1 + (1 + q) := by simp; omega
    have ln3 : o2.length ≤ (o2 ++ (MO.ml [] :: (List.replicate (1 + q) (MO.ml []) ++ [MO.ml ((List.range (1 + q)).map fun i => D.obj (o2.length + 1 + i))])) ++ bkO (o2.length + 1 + (1 + q) + 1) ⟨1 + p, List.replicate (1 + q) [], []⟩).length := by simp
    generalize (o2 ++ (MO.ml [] :: (List.replicate (1 + q) (MO.ml []) ++ [MO.ml ((List.range (1 + q)).map fun i => D.obj (o2.length + 1 + i))])) ++ bkO (o2.length + 1 + (1 + q) + 1) ⟨1 + p, List.replicate (1 + q) [], []⟩) = o3 at st mk ln3
    generalize (List.range (1 + q)).map (fun i => (([] : List Row), o2.length + 1 + i)) = ds0 at st
    have ce : o2 ++ (MO.ml [] :: (List.replicate (1 + q) (MO.ml []) ++ [MO.ml ((List.range (1 + q)).map fun i => D.obj (o2.length + 1 + i))])) ++ [MO.ins []] = o2 ++ (MO.ml [] :: (List.replicate (1 + q) (MO.ml []) ++ [MO.ml ((List.range (1 + q)).map fun i => D.obj (o2.length + 1 + i)), MO.ins []])) := by simp
    rw [ce] at mk
    have c1 : ((1 + p : Nat) : Int) = 1 + (p : Int) := by omega
    have c2 : ((1 + q : Nat) : Int) = 1 + (q : Int) := by omega
    rw [c1, c2] at mk
    simp [hd, mk]
    refine next_h st.dc (by omega) (by omega) fun n o4 hn4 d4 m4 => ?_
    have s4 := st.dice d4 m4
    have n1 : (-100000 : Int) ≤ 2 + n := by omega
    have n2 : (2 : Int) + n ≤ 100000 := by omega
    have n3 : ((2 : Int) + n).toNat = 2 + n := by omega
    simp [n1, n2, n3]
    have ec : D.tup [D.int (1 + (p : Int)), D.obj o2.length, D.obj (o2.length + 1 + (1 + q))] = eHC (1 + p) o2.length (o2.length + 1 + (1 + q)) := by unfold eHC; rw [c1]
    rw [ec]
    generalize hP : 1 + p = persons at s4
    generalize hH : o2.length + 1 + (1 + q) = hdd at s4 hd
    generalize hdd + 1 = b at s4
    refine W_rng0 (2 + n) (fun i ρ o5 => ∃ ks ds, StoryAt o5 "_law_turn" b persons o2.length hdd ks ds ∧ ∃ a6 a7, ρ = [.d (.obj 1), .d (.int most), .d (.int (1 + (p : Int))), .d (.int (1 + (q : Int))), .d (eHC persons o2.length hdd), .d (.obj b), a6, a7]) ⟨[], ds0, s4, _, _, rfl⟩ ?_ ?_
    · rintro i ρ o5 hi ⟨ks, ds, s5, a6, a7, rfl⟩
      refine ⟨_, rfl, ?_⟩
      simp
      exact turn_V s5 fun o6 ks' ds' s6 _ => ⟨ks', ds', s6⟩
    · rintro ρ o5 ⟨ks, ds, s5, a6, a7, rfl⟩
      simp
      exact k o5 b persons o2.length hdd ks ds (by have := s5.hk1; have := s5.bk.lt; omega) s5
end
end KR
set_option Elab.async false
set_option linter.all false
set_option maxRecDepth 100000
set_option maxHeartbeats 4000000
namespace KR
open PySem L2
/-! ### loops over what stands behind a handle, or by value: by the place -/
section
variable {N : Rho → Om → Prop} {T : D → Om → Prop} {X : Xc → Om → Prop} {p : Pat} {s : DS} {d : D} {xs : List D} {ρ : Rho} {o : Om}
theorem W_seqI (xs : List D) (I : Nat → Rho → Om → Prop) (hq : ∀ i ρ o, I i ρ o → qv o d = some xs) (h0 : I 0 ρ o) (ht : ∀ i x ρ o, xs[i]? = some x → I i ρ o → ∃ ρ1, p.f x ρ = some ρ1 ∧ W (I (i + 1)) T X (s ρ1 o)) (hd : ∀ ρ o, I xs.length ρ o → N ρ o) : W N T X (loopS p s (.seq d) ρ o) := by
  have key : ∀ (k i : Nat) (ρ : Rho) (o : Om), k + i = xs.length → I i ρ o → W N T X (loopF (.seq d) p s (k + 1) i ρ o) := by
    intro k
    induction k with
    | zero =>
      intro i ρ o e h
      have e' : i = xs.length := by omega
      subst e'
      unfold loopF
      have n : nxt o (.seq d) xs.length = some none := by show (qv o d).map _ = _; rw [hq _ _ _ h]; simp
      rw [n]
      exact hd ρ o h
    | succ k ih =>
      intro i ρ o e h
      have l : i < xs.length := by omega
      unfold loopF
      have n : nxt o (.seq d) i = some (some xs[i]) := by show (qv o d).map _ = _; rw [hq _ _ _ h]; simp [l]
      rw [n]
      obtain ⟨ρ1, e1, h1⟩ := ht i xs[i] ρ o (List.getElem?_eq_getElem l) h
      simp only [e1]
      cases q : s ρ1 o with
      | nx ρ2 o2 => rw [q] at h1; exact ih (i + 1) ρ2 o2 (by omega) h1
      | rt d o2 => rw [q] at h1; exact h1
      | exc d o2 => rw [q] at h1; exact h1
      | bk ρ2 o2 => rw [q] at h1; exact h1.elim
      | ct ρ2 o2 => rw [q] at h1; exact h1.elim
      | bad => rw [q] at h1; exact h1.elim
  unfold loopS
  have e : srcN o (.seq d) = xs.length := by show ((qv o d).getD []).length = _; rw [hq _ _ _ h0]; rfl
  rw [e]
  exact key xs.length 0 ρ o (by omega) h0
theorem V_seqI {tt : DB} {te : DE} {Q : List D → Om → Prop} (xs : List D) (hl : xs.length ≤ 100000) (I : Nat → List D → Om → Prop) (hq : ∀ i acc o, I i acc o → qv o d = some xs) (h0 : I 0 [] o)
    (ht : ∀ i x acc o, xs[i]? = some x → I i acc o → ∃ ρ1, p.f x ρ = some ρ1 ∧ V (fun t o1 => if t = true then V (fun y o2 => I (i + 1) (acc ++ [y]) o2) (fun _ _ => False) (te ρ1 o1) else I (i + 1) acc o1) (fun _ _ => False) (tt ρ1 o))
    (hd : ∀ acc o, I xs.length acc o → Q acc o) : V Q X (loopD p tt te (.seq d) ρ o) := by
  have key : ∀ (k i : Nat) (acc : List D) (o : Om), k + i = xs.length → I i acc o → V (fun ys o => Q (acc ++ ys) o) (fun _ _ => False) (loopC (.seq d) p tt te ρ (k + 1) i o) := by
    intro k
    induction k with
    | zero =>
      intro i acc o e h
      have e' : i = xs.length := by omega
      subst e'
      unfold loopC
      have n : nxt o (.seq d) xs.length = some none := by show (qv o d).map _ = _; rw [hq _ _ _ h]; simp
      rw [n]
      show Q (acc ++ []) o
      rw [List.append_nil]
      exact hd acc o h
    | succ k ih =>
      intro i acc o e h
      have l : i < xs.length := by omega
      have l5 : i < 100000 := by omega
      unfold loopC
      have n : nxt o (.seq d) i = some (some xs[i]) := by show (qv o d).map _ = _; rw [hq _ _ _ h]; simp [l]
      rw [n]
      obtain ⟨ρ1, e1, h1⟩ := ht i xs[i] acc o (List.getElem?_eq_getElem l) h
      simp only [e1]
      cases q : tt ρ1 o with
      | ok t o1 =>
        rw [q] at h1
        cases t with
        | true =>
          have h1' : V (fun y o2 => I (i + 1) (acc ++ [y]) o2) (fun _ _ => False) (te ρ1 o1) := h1
          simp only
          cases q2 : te ρ1 o1 with
          | ok y o2 =>
            rw [q2] at h1'
            have z := ih (i + 1) (acc ++ [y]) o2 (by omega) h1'
            simp only [if_pos l5]
            cases q3 : loopC (.seq d) p tt te ρ (k + 1) (i + 1) o2 with
            | ok r o3 =>
              rw [q3] at z
              show Q (acc ++ y :: r) o3
              have z' : Q ((acc ++ [y]) ++ r) o3 := z
              rw [List.append_assoc] at z'
              exact z'
            | exc x o3 => rw [q3] at z; exact z.elim
            | bad => rw [q3] at z; exact z.elim
          | exc x o2 => rw [q2] at h1'; exact h1'.elim
          | bad => rw [q2] at h1'; exact h1'.elim
        | false =>
          have h1' : I (i + 1) acc o1 := h1
          exact ih (i + 1) acc o1 (by omega) h1'
      | exc x o1 => rw [q] at h1; exact h1.elim
      | bad => rw [q] at h1; exact h1.elim
  unfold loopD
  have e : srcN o (.seq d) = xs.length := by show ((qv o d).getD []).length = _; rw [hq _ _ _ h0]; rfl
  rw [e]
  have z := key xs.length 0 [] o (by omega) h0
  exact z.imp (fun a o h => by simpa using h) fun _ _ z => z.elim
end
/-- a list by value, or behind a handle beyond the dice -/
def LstAt (o : Om) (d : D) (xs : List D) : Prop := d = .lst xs ∨ ∃ h, 1 < h ∧ d = .obj h ∧ o[h]? = some (.ml xs)
section
variable {o o' : Om} {d : D} {xs : List D}
theorem LstAt.qv (h : LstAt o d xs) : KR.qv o d = some xs := by
  rcases h with rfl | ⟨h, _, rfl, e⟩
  · rfl
  · exact qv_obj e
theorem LstAt.lv (h : LstAt o d xs) : KR.lv o d = some xs := by
  rcases h with rfl | ⟨h, _, rfl, e⟩
  · rfl
  · exact lv_obj e
/-- what stood beyond the dice stands as it did -/
def Kept (o o' : Om) : Prop := o.length ≤ o'.length ∧ ∀ i, 1 < i → i < o.length → o'[i]? = o[i]?
theorem Kept.refl (o : Om) : Kept o o := ⟨Nat.le_refl _, fun _ _ _ => rfl⟩
theorem Kept.trans {o1 o2 : Om} (a : Kept o o1) (b : Kept o1 o2) : Kept o o2 := ⟨Nat.le_trans a.1 b.1, fun i h1 h2 => (b.2 i h1 (Nat.lt_of_lt_of_le h2 a.1)).trans (a.2 i h1 h2)⟩
theorem Kept.of {p : Nat → Prop} (s : Same p o o') (h : ∀ i, 1 < i → i < o.length → ¬ p i) : Kept o o' := ⟨s.1, fun i h1 h2 => s.2 i h2 (h i h1 h2)⟩
theorem Kept.dice (s : Same (· = 1) o o') : Kept o o' := Kept.of s fun i h _ => by omega
theorem Kept.none (s : Same (fun _ => False) o o') : Kept o o' := Kept.of s fun i h _ => id
theorem Kept.app (o e : Om) : Kept o (o ++ e) := ⟨by simp, fun i _ h => List.getElem?_append_left h⟩
theorem Kept.from {o1 : Om} {b : Nat} (k : Kept o o1) (hb : o.length ≤ b) (s : Same (inB b) o1 o') : Kept o o' :=
  ⟨Nat.le_trans k.1 s.1, fun i h1 h2 => (s.2 i (Nat.lt_of_lt_of_le h2 k.1) (by unfold inB; omega)).trans (k.2 i h1 h2)⟩
theorem LstAt.kept (h : LstAt o d xs) (k : Kept o o') : LstAt o' d xs := by
  rcases h with rfl | ⟨h, h1, rfl, e⟩
  · exact .inl rfl
  · exact .inr ⟨h, h1, rfl, (k.2 h h1 (lt_of_some e)).trans e⟩
theorem BkAt.kept {b : Nat} {B : Bk} (h : BkAt o b B) (hb : 1 < b) (k : Kept o o') : BkAt o' b B := by
  have l := h.lt
  exact ⟨(k.2 b hb (by omega)).trans h.i0, (k.2 _ (by omega) (by omega)).trans h.i1, (k.2 _ (by omega) (by omega)).trans h.i2, (k.2 _ (by omega) (by omega)).trans h.i3, (k.2 _ (by omega) (by omega)).trans h.i4⟩
def RowsAt (o : Om) (d : D) (rs : List Row) : Prop := LstAt o d (rs.map eRow)
def KeyAt (o : Om) (d : D) (k : Key) : Prop := ∃ r, d = .tup [eTs k.opens, .bl k.plain, r] ∧ RowsAt o r k.rows
/-- these are these, place by place -/
structure Each {α : Type} (P : D → α → Prop) (ds : List D) (xs : List α) : Prop where
  len : ds.length = xs.length
  at_ : ∀ (i : Nat) (d : D) (x : α), ds[i]? = some d → xs[i]? = some x → P d x
theorem Each.imp {α : Type} {P Q : D → α → Prop} {ds : List D} {xs : List α} (h : Each P ds xs) (f : ∀ d x, P d x → Q d x) : Each Q ds xs := ⟨h.len, fun i d x a b => f d x (h.at_ i d x a b)⟩
theorem Each.get {α : Type} {P : D → α → Prop} {ds : List D} {xs : List α} (h : Each P ds xs) {i : Nat} {x : α} (e : xs[i]? = some x) : ∃ d, ds[i]? = some d ∧ P d x := by
  have l : i < ds.length := by rw [h.len]; exact lt_of_some e
  exact ⟨ds[i], List.getElem?_eq_getElem l, h.at_ i _ x (List.getElem?_eq_getElem l) e⟩
theorem Each.get' {α : Type} {P : D → α → Prop} {ds : List D} {xs : List α} (h : Each P ds xs) {i : Nat} {d : D} (e : ds[i]? = some d) : ∃ x, xs[i]? = some x ∧ P d x := by
  have l : i < xs.length := by rw [← h.len]; exact lt_of_some e
  exact ⟨xs[i], List.getElem?_eq_getElem l, h.at_ i d _ e (List.getElem?_eq_getElem l)⟩
theorem Each.map {α : Type} {P : D → α → Prop} (f : α → D) (xs : List α) (h : ∀ x ∈ xs, P (f x) x) : Each P (xs.map f) xs := ⟨by simp, fun i d x a b => by
  rw [List.getElem?_map, b] at a
  cases a
  exact h x (List.mem_of_getElem? b)⟩
theorem Each.map2 {α β : Type} {P : D → α → Prop} (f : β → D) (g : β → α) (xs : List β) (h : ∀ x ∈ xs, P (f x) (g x)) : Each P (xs.map f) (xs.map g) := ⟨by simp, fun i d x a b => by
  rw [List.getElem?_map] at a b
  cases q : xs[i]? with
  | none => rw [q] at a; cases a
  | some y =>
    rw [q] at a b
    cases a
    cases b
    exact h y (List.mem_of_getElem? q)⟩
theorem Each.one {α : Type} {P : D → α → Prop} {d : D} {x : α} (h : P d x) : Each P [d] [x] := ⟨rfl, fun i d' x' a b => by
  match i with
  | 0 => cases a; cases b; exact h
  | i + 1 => cases a⟩
theorem Each.snoc {α : Type} {P : D → α → Prop} {ds : List D} {xs : List α} {d : D} {x : α} (h : Each P ds xs) (h1 : P d x) : Each P (ds ++ [d]) (xs ++ [x]) := ⟨by simp [h.len], fun i d' x' a b => by
  rw [List.getElem?_append] at a b
  by_cases l : i < ds.length
  · rw [if_pos l] at a
    rw [if_pos (by rw [← h.len]; exact l)] at b
    exact h.at_ i d' x' a b
  · rw [if_neg l] at a
    rw [if_neg (by rw [← h.len]; exact l)] at b
    rw [h.len] at a
    cases q : i - xs.length with
    | zero => rw [q] at a b; cases a; cases b; exact h1
    | succ n => rw [q] at a; cases a⟩
theorem KeyAt.kept {k : Key} (h : KeyAt o d k) (s : Kept o o') : KeyAt o' d k := by
  obtain ⟨r, e, h⟩ := h
  exact ⟨r, e, LstAt.kept h s⟩
/-- a case, by value or by handles -/
structure CaseIs (o : Om) (d : D) (persons : Nat) (keys : List Key) (doors : List (List Row)) : Prop where
  ex : ∃ dk dd ks rs, d = .tup [.int persons, dk, dd] ∧ LstAt o dk ks ∧ Each (KeyAt o) ks keys ∧ LstAt o dd rs ∧ Each (RowsAt o) rs doors
theorem CaseIs.kept {persons : Nat} {keys : List Key} {doors : List (List Row)} (h : CaseIs o d persons keys doors) (s : Kept o o') : CaseIs o' d persons keys doors := by
  obtain ⟨dk, dd, ks, rs, e, h1, h2, h3, h4⟩ := h.ex
  exact ⟨dk, dd, ks, rs, e, h1.kept s, h2.imp fun d x h => h.kept s, h3.kept s, h4.imp fun d x h => LstAt.kept h s⟩
end
theorem StAt.caseIs {o : Om} {t : Str} {b persons hk hd : Nat} {ks : Ks} {ds : Ds} {B : Bk} (s : StAt o t b persons hk hd ks ds B) : CaseIs o (eHC persons hk hd) persons (ks.map (·.1)) (ds.map (·.1)) :=
  ⟨_, _, _, _, rfl, .inr ⟨hk, s.hk1.1, rfl, s.case.keys⟩, Each.map2 eSK (·.1) ks fun k h => ⟨_, rfl, .inr ⟨k.2, by have := s.kh k h; have := s.hk1; omega, rfl, s.case.krow k h⟩⟩, .inr ⟨hd, s.hd1.1, rfl, s.case.doors⟩, Each.map2 _ (·.1) ds fun d h => .inr ⟨d.2, (s.dh d h).1, rfl, s.case.drow d h⟩⟩
end KR
set_option Elab.async false
set_option linter.all false
set_option maxRecDepth 100000
set_option maxHeartbeats 4000000
namespace KR
open PySem L2
/-! ### a book written from a case -/
structure CaseW (persons : Nat) (keys : List Key) (doors : List (List Row)) : Prop where
  many : 1 ≤ persons ∧ persons ≤ 8
  dl : 1 ≤ doors.length ∧ doors.length ≤ 4
  kl : keys.length ≤ 6
  ks : ∀ k ∈ keys, KeyOk persons 999 8 k
  ds : ∀ rs ∈ doors, DoorOk 999 8 rs
theorem CaseW.ok {persons : Nat} {keys : List Key} {doors : List (List Row)} (c : CaseW persons keys doors) : Ok ⟨persons, doors, keys⟩ :=
  ⟨c.many, c.dl, c.kl, fun k h => (c.ks k h).len, fun k h => (c.ks k h).rl, fun rs h => ⟨(c.ds rs h).rl, fun r hr => by obtain ⟨k, e, _⟩ := (c.ds rs h).kind r hr; exact ⟨k, e⟩⟩⟩
theorem same_kept {o o' : Om} (s : Same (inB o.length) o o') : Kept o o' := Kept.of s fun i _ h => by unfold inB; omega
theorem take_sn1 {α : Type} {l : List α} {i : Nat} {x : α} (h : l[i]? = some x) : l.take (i + 1) = l.take i ++ [x] := by rw [List.take_add_one, h]; rfl
theorem take_ins {rs : List Row} {j : Nat} {r : Row} (h : rs[j]? = some r) : ins (rs.take j) j r = rs.take (j + 1) := by
  have l := lt_of_some h
  unfold ins
  rw [take_sn1 h, List.take_take, Nat.min_self, List.drop_eq_nil_of_le (by simp; omega), List.append_nil]
theorem Fit.take {rs : List Row} (h : Fit rs) (n : Nat) : Fit (rs.take n) := by
  have e : rs.take n ++ rs.drop n = rs := List.take_append_drop n rs
  rw [← e] at h
  exact h.pre
theorem written_V {o : Om} {d : D} {persons : Nat} {keys : List Key} {doors : List (List Row)} {Q : D → Om → Prop} {X : Xc → Om → Prop} (h : CaseIs o d persons keys doors) (c : CaseW persons keys doors)
    (k : ∀ o', BkAt o' o.length ⟨persons, doors, keys⟩ → Same (fun _ => False) o o' → Q (.obj o.length) o') : V Q X (phi_l_written [d] o) := by
  obtain ⟨dk, dd, ks, rs, rfl, hk, ek, hd, ed⟩ := h.ex
  have hk6 := c.kl
  have hd4 := c.dl
  refine def_V ?_
  unfold den_l_written
  have mk := init_eq o persons doors.length c.many (by omega)
  have bk0 := bkAt_new o ⟨persons, List.replicate doors.length [], []⟩
  have sm0 : Same (inB o.length) o (o ++ bkO o.length ⟨persons, List.replicate doors.length [], []⟩) := Same.app _ _ _
  generalize o ++ bkO o.length ⟨persons, List.replicate doors.length [], []⟩ = o1 at mk bk0 sm0
  have kq : ∀ {o2 : Om}, Same (inB o.length) o o2 → qv o2 dk = some ks := fun s => (hk.kept (same_kept s)).qv
  have dq : ∀ {o2 : Om}, Same (inB o.length) o o2 → qv o2 dd = some rs := fun s => (hd.kept (same_kept s)).qv
  have rl : rs.length = doors.length := ed.len
  simp [hd.qv, rl, mk, kq sm0]
  refine W_seqI ks (fun i ρ o2 => BkAt o2 o.length ⟨persons, List.replicate doors.length [], keys.take i⟩ ∧ Same (inB o.length) o o2 ∧ ∃ (a5 a6 a7 a8 a9 a10 a11 : EV),
    ρ = [.d (.tup [.int persons, dk, dd]), .d (.int persons), .d dk, .d dd, .d (.obj o.length), a5, a6, a7, a8, a9, a10, a11]) (fun i ρ o2 hI => kq hI.2.1) ⟨by simpa using bk0, sm0, _, _, _, _, _, _, _, rfl⟩ ?_ ?_
  · rintro i x ρ o2 hx ⟨hB, hS, a5, a6, a7, a8, a9, a10, a11, rfl⟩
    obtain ⟨key, hkey, r, rfl, hr⟩ := ek.get' hx
    have km := List.mem_of_getElem? hkey
    have kk := c.ks key km
    have il := lt_of_some hkey
    refine ⟨_, by simp; rfl, ?_⟩
    obtain ⟨o3, c1, c2, c3⟩ := cut_eq hB (by show (keys.take i).length < 6; simp; omega) key.opens key.plain kk.inc kk.len kk.rng
    have c2' : BkAt o3 o.length ⟨persons, List.replicate doors.length [], keys.take i ++ [⟨key.opens, key.plain, key.rows.take 0⟩]⟩ := by simpa [addKey] using c2
    have hl : (keys.take i).length = i := by simp; omega
    have c1' : phi_Book_cut [.obj o.length, eTs key.opens, .bl key.plain] o2 = .ok (.int (i : Int)) o3 := by rw [c1]; show Res.ok (D.int ((keys.take i).length : Nat)) o3 = _; rw [hl]
    have hS3 := hS.trans c3
    have rq : ∀ {o2 : Om}, Same (inB o.length) o o2 → qv o2 r = some (key.rows.map eRow) := fun s => (LstAt.kept hr (same_kept s)).qv
    have n1 : (-100000 : Int) ≤ key.rows.length := by omega
    have n2 : (key.rows.length : Int) ≤ 100000 := by have := kk.rl; omega
    simp [hB.fv, c1', rq hS3, n1, n2]
    refine W_rng0 key.rows.length (fun j ρ o4 => BkAt o4 o.length ⟨persons, List.replicate doors.length [], keys.take i ++ [⟨key.opens, key.plain, key.rows.take j⟩]⟩ ∧ Same (inB o.length) o o4 ∧ ∃ (a9 a10 a11 : EV),
      ρ = [.d (.tup [.int persons, dk, dd]), .d (.int persons), .d dk, .d dd, .d (.obj o.length), .d (eTs key.opens), .d (.bl key.plain), .d r, .d (.int (i : Int)), a9, a10, a11]) ⟨c2', hS3, _, _, _, rfl⟩ ?_ ?_
    · rintro j ρ o4 hj ⟨hB4, hS4, a9, a10, a11, rfl⟩
      have ej := List.getElem?_eq_getElem hj
      have ym := List.getElem_mem hj
      generalize key.rows[j] = y at ej ym
      have at_ : (keys.take i ++ [(⟨key.opens, key.plain, key.rows.take j⟩ : Key)])[i]? = some ⟨key.opens, key.plain, key.rows.take j⟩ := by rw [List.getElem?_append_right (by omega), hl]; simp
      have rl8 := kk.rl
      have tl : (key.rows.take j).length = j := by simp; omega
      have hok := kk.ok y ym
      obtain ⟨o5, e1, e2, e3⟩ := hand4 hB4 i ⟨key.opens, key.plain, key.rows.take j⟩ at_ j (by show j ≤ (key.rows.take j).length; omega) (by show (key.rows.take j).length < 8; omega) y (kk.who y ym) hok (by
        show Fit (ins (key.rows.take j) j y)
        rw [take_ins ej]
        exact kk.fit.take _)
      refine ⟨_, rfl, ?_⟩
      simp [hB4.fv, rq hS4, atI_nat, ej, eRow, e1]
      refine ⟨?_, hS4.trans e3⟩
      have e2' := e2
      simp only [setKey, take_ins ej] at e2'
      have se : (keys.take i ++ [(⟨key.opens, key.plain, key.rows.take j⟩ : Key)]).set i ⟨key.opens, key.plain, key.rows.take (j + 1)⟩ = keys.take i ++ [⟨key.opens, key.plain, key.rows.take (j + 1)⟩] := by
        rw [List.set_append_right _ _ (by omega), hl]; simp
      rw [se] at e2'
      exact e2'
    · rintro ρ o4 ⟨hB4, hS4, a9, a10, a11, rfl⟩
      rw [List.take_length] at hB4
      refine ⟨by rw [take_sn1 hkey]; exact hB4, hS4, _, _, _, _, _, _, _, rfl⟩
  · rintro ρ o2 ⟨hB, hS, a5, a6, a7, a8, a9, a10, a11, rfl⟩
    rw [ek.len, List.take_length] at hB
    have n1 : (-100000 : Int) ≤ doors.length := by omega
    have n2 : (doors.length : Int) ≤ 100000 := by omega
    simp [dq hS, rl, n1, n2]
    refine W_rng0 doors.length (fun i ρ o3 => BkAt o3 o.length ⟨persons, doors.take i ++ List.replicate (doors.length - i) [], keys⟩ ∧ Same (inB o.length) o o3 ∧ ∃ (a5 a6 a7 a8 a9 a10 a11 : EV),
      ρ = [.d (.tup [.int persons, dk, dd]), .d (.int persons), .d dk, .d dd, .d (.obj o.length), a5, a6, a7, a8, a9, a10, a11]) ⟨by simpa using hB, hS, _, _, _, _, _, _, _, rfl⟩ ?_ ?_
    · rintro i ρ o3 hi ⟨hB3, hS3, a5, a6, a7, a8, a9, a10, a11, rfl⟩
      have ei := List.getElem?_eq_getElem hi
      have dm := List.getElem_mem hi
      generalize doors[i] = dr at ei dm
      obtain ⟨r, er, hr⟩ := ed.get ei
      have dk' := c.ds dr dm
      have rq : ∀ {o2 : Om}, Same (inB o.length) o o2 → qv o2 r = some (dr.map eRow) := fun s => (LstAt.kept hr (same_kept s)).qv
      have m1 : (-100000 : Int) ≤ dr.length := by omega
      have m2 : (dr.length : Int) ≤ 100000 := by have := dk'.rl; omega
      have hl : (doors.take i).length = i := by simp; omega
      have rep : List.replicate (doors.length - i) ([] : List Row) = [] :: List.replicate (doors.length - (i + 1)) [] := by
        rw [show doors.length - i = (doors.length - (i + 1)) + 1 by omega, List.replicate_succ]
      refine ⟨_, rfl, ?_⟩
      simp [dq hS3, atI_nat, er, rq hS3, m1, m2]
      refine W_rng0 dr.length (fun j ρ o4 => BkAt o4 o.length ⟨persons, doors.take i ++ dr.take j :: List.replicate (doors.length - (i + 1)) [], keys⟩ ∧ Same (inB o.length) o o4 ∧ ∃ (a5 a6 a7 a8 a9 a11 : EV),
        ρ = [.d (.tup [.int persons, dk, dd]), .d (.int persons), .d dk, .d dd, .d (.obj o.length), a5, a6, a7, a8, a9, .d (.int (i : Int)), a11]) ⟨by rw [rep] at hB3; simpa using hB3, hS3, _, _, _, _, _, _, rfl⟩ ?_ ?_
      · rintro j ρ o4 hj ⟨hB4, hS4, a5, a6, a7, a8, a9, a11, rfl⟩
        have ej := List.getElem?_eq_getElem hj
        have ym := List.getElem_mem hj
        generalize dr[j] = y at ej ym
        have at_ : (doors.take i ++ dr.take j :: List.replicate (doors.length - (i + 1)) [])[i]? = some (dr.take j) := by rw [List.getElem?_append_right (by omega), hl]; simp
        have rl8 := dk'.rl
        have tl : (dr.take j).length = j := by simp; omega
        obtain ⟨kk, hkk, hk0, hk9⟩ := dk'.kind y ym
        obtain ⟨o5, e1, e2, e3⟩ := fit4 hB4 i (dr.take j) at_ j (by omega) (by omega) y kk hkk ⟨hk0, hk9⟩ (dk'.ok y ym) (by rw [take_ins ej]; exact dk'.fit.take _)
        refine ⟨_, rfl, ?_⟩
        simp [dq hS4, hB4.fv, rq hS4, atI_nat, er, ej, eRow, hkk, eO, e1]
        refine ⟨?_, hS4.trans e3⟩
        have e2' := e2
        simp only [setDoor, take_ins ej] at e2'
        have se : (doors.take i ++ dr.take j :: List.replicate (doors.length - (i + 1)) []).set i (dr.take (j + 1)) = doors.take i ++ dr.take (j + 1) :: List.replicate (doors.length - (i + 1)) [] := by
          rw [List.set_append_right _ _ (by omega), hl]; simp
        rw [se] at e2'
        exact e2'
      · rintro ρ o4 ⟨hB4, hS4, a5, a6, a7, a8, a9, a11, rfl⟩
        rw [List.take_length] at hB4
        refine ⟨?_, hS4, _, _, _, _, _, _, _, rfl⟩
        rw [take_sn1 ei, List.append_assoc]
        exact hB4
    · rintro ρ o3 ⟨hB3, hS3, a5, a6, a7, a8, a9, a10, a11, rfl⟩
      simp at hB3
      simp
      exact k o3 hB3 (hS3.weak fun i hi hin => by unfold inB at hin; omega)
end KR
set_option Elab.async false
set_option linter.all false
set_option maxRecDepth 100000
set_option maxHeartbeats 2000000
namespace KR
open PySem L2
theorem mem_mine {B : Bk} {person : Nat} {m : Int} {i : Nat} : i ∈ mine B person m ↔ ∃ k, B.keys[i]? = some k ∧ isSure person m k = true := by
  unfold mine
  rw [List.mem_filter, List.mem_range]
  constructor
  · rintro ⟨h, h2⟩
    rw [List.getElem?_eq_getElem h] at h2
    exact ⟨_, List.getElem?_eq_getElem h, h2⟩
  · rintro ⟨k, h, h2⟩
    exact ⟨(List.getElem?_eq_some_iff.mp h).1, by rw [h]; exact h2⟩
theorem sureA_iff {B : Bk} {person : Nat} {kinds : List Int} {m : Int} : sureA B person kinds m = true ↔ ∀ kd ∈ kinds, ∃ (i : Nat) (k : Key), B.keys[i]? = some k ∧ isSure person m k = true ∧ kd ∈ k.opens := by
  unfold sureA
  rw [List.isEmpty_iff, List.filter_eq_nil_iff]
  constructor
  · intro h kd hkd
    have h1 := h kd hkd
    rw [List.isEmpty_iff, List.filter_eq_nil_iff] at h1
    simp only [Classical.not_forall] at h1
    obtain ⟨i, hi, h2⟩ := h1
    obtain ⟨k, hk, hs⟩ := mem_mine.mp hi
    refine ⟨i, k, hk, hs, ?_⟩
    unfold opensAt at h2
    rw [hk] at h2
    simpa using h2
  · intro h kd hkd
    obtain ⟨i, k, hk, hs, ho⟩ := h kd hkd
    rw [List.isEmpty_iff, List.filter_eq_nil_iff]
    intro h2
    refine h2 i (mem_mine.mpr ⟨k, hk, hs⟩) ?_
    unfold opensAt
    rw [hk]
    simpa using ho
theorem maybeA_iff {B : Bk} {person : Nat} {kinds : List Int} {m : Int} : maybeA B person kinds m = true ↔ ∃ (i : Nat) (k : Key), B.keys[i]? = some k ∧ (∃ kd, kd ∈ k.opens ∧ kd ∈ kinds) ∧ mayHold B.many person m k = true := by
  unfold maybeA
  rw [List.any_eq_true]
  constructor
  · rintro ⟨i, hi, h⟩
    have hi' := List.mem_range.mp hi
    rw [List.getElem?_eq_getElem hi', Bool.and_eq_true] at h
    refine ⟨i, _, List.getElem?_eq_getElem hi', ?_, h.2⟩
    have h1 := h.1
    unfold opensSome opensAt at h1
    rw [List.getElem?_eq_getElem hi'] at h1
    simp only [Bool.not_eq_true', List.isEmpty_eq_false_iff_exists_mem, List.mem_filter] at h1
    obtain ⟨kd, h2, h3⟩ := h1
    exact ⟨kd, h2, by simpa using h3⟩
  · rintro ⟨i, k, hk, ⟨kd, h1, h2⟩, h3⟩
    refine ⟨i, List.mem_range.mpr (List.getElem?_eq_some_iff.mp hk).1, ?_⟩
    rw [hk, Bool.and_eq_true]
    refine ⟨?_, h3⟩
    unfold opensSome opensAt
    rw [hk]
    simp only [Bool.not_eq_true', List.isEmpty_eq_false_iff_exists_mem, List.mem_filter]
    exact ⟨kd, h1, by simpa using h2⟩
theorem ans_surely {B : Bk} {person : Nat} {kinds : List Int} {m : Int} : ans B person kinds m = "surely" ↔ sureA B person kinds m = true := by
  unfold ans
  constructor
  · intro h
    by_cases q : sureA B person kinds m = true
    · exact q
    · rw [if_neg q] at h
      split at h
      · exact absurd h (by decide +kernel)
      · exact absurd h (by decide +kernel)
  · intro h; rw [if_pos h]
theorem ans_no {B : Bk} {person : Nat} {kinds : List Int} {m : Int} : ans B person kinds m = "no" ↔ sureA B person kinds m = false ∧ maybeA B person kinds m = false := by
  unfold ans
  constructor
  · intro h
    by_cases q : sureA B person kinds m = true
    · rw [if_pos q] at h; exact absurd h (by decide +kernel)
    · rw [if_neg q] at h
      by_cases q2 : maybeA B person kinds m = true
      · rw [if_pos q2] at h; exact absurd h (by decide +kernel)
      · exact ⟨by simpa using q, by simpa using q2⟩
  · rintro ⟨h1, h2⟩
    rw [h1, h2]; rfl
theorem ans_maybe {B : Bk} {person : Nat} {kinds : List Int} {m : Int} : ans B person kinds m = "maybe" ↔ sureA B person kinds m = false ∧ maybeA B person kinds m = true := by
  unfold ans
  constructor
  · intro h
    by_cases q : sureA B person kinds m = true
    · rw [if_pos q] at h; exact absurd h (by decide +kernel)
    · rw [if_neg q] at h
      by_cases q2 : maybeA B person kinds m = true
      · exact ⟨by simpa using q, q2⟩
      · rw [if_neg q2] at h; exact absurd h (by decide +kernel)
  · rintro ⟨h1, h2⟩
    rw [h1, h2]; rfl
/-! ### narrower books -/
structure KNar (ws : List Int) (k k' : Key) : Prop where
  o : k'.opens = k.opens
  p : k'.plain = k.plain
  n : Nar ws k.rows k'.rows
  f : Fit k'.rows
  l : ∀ r ∈ k'.rows, r.l ≤ 999
structure BNar (ws : List Int) (B B' : Bk) : Prop where
  many : B'.many = B.many
  len : B'.keys.length = B.keys.length
  ks : ∀ (i : Nat) (k k' : Key), B.keys[i]? = some k → B'.keys[i]? = some k' → KNar ws k k'
theorem BNar.at1 {ws : List Int} {B B' : Bk} (n : BNar ws B B') {i : Nat} {k : Key} (h : B.keys[i]? = some k) : ∃ k', B'.keys[i]? = some k' ∧ KNar ws k k' := by
  have hi : i < B'.keys.length := by rw [n.len]; exact (List.getElem?_eq_some_iff.mp h).1
  exact ⟨_, List.getElem?_eq_getElem hi, n.ks i _ _ h (List.getElem?_eq_getElem hi)⟩
theorem BNar.at2 {ws : List Int} {B B' : Bk} (n : BNar ws B B') {i : Nat} {k' : Key} (h : B'.keys[i]? = some k') : ∃ k, B.keys[i]? = some k ∧ KNar ws k k' := by
  have hi : i < B.keys.length := by rw [← n.len]; exact (List.getElem?_eq_some_iff.mp h).1
  exact ⟨_, List.getElem?_eq_getElem hi, n.ks i _ _ (List.getElem?_eq_getElem hi) h⟩
theorem isSure_iff {person : Nat} {m : Int} {k : Key} : isSure person m k = true ↔ sureOf (whoS k.rows m) = some (person : Int) := by unfold isSure; exact beq_iff_eq
theorem nar_surely {ws : List Int} {B B' : Bk} (n : BNar ws B B') {kinds kinds' : List Int} (hk : ∀ x ∈ kinds', x ∈ kinds) {person : Nat} {m : Int} (h0 : 0 ≤ m) (h1 : m ≤ 999) (h : sureA B person kinds m = true) : sureA B' person kinds' m = true := by
  rw [sureA_iff] at h ⊢
  intro kd hkd
  obtain ⟨i, k, hk1, hk2, hk3⟩ := h kd (hk kd hkd)
  obtain ⟨k', hk', kn⟩ := n.at1 hk1
  exact ⟨i, k', hk', isSure_iff.mpr (nar_sure kn.n kn.f kn.l h0 h1 (isSure_iff.mp hk2)), by rw [kn.o]; exact hk3⟩
theorem sure_every {rs : List Row} {m : Int} {p many : Nat} (hp : p < many) (h : sureOf (whoS rs m) = some (p : Int)) : p ∈ everyOf many (whoS rs m) := by
  obtain ⟨h1, h2, _⟩ := sureOf_iff.mp h
  unfold everyOf
  rw [List.mem_filter]
  refine ⟨List.mem_range.mpr hp, ?_⟩
  rw [Bool.or_eq_true]
  refine .inl ?_
  cases e : whoS rs m with
  | nil => exact (h1 e).elim
  | cons w r =>
    have := h2 w (by rw [e]; exact List.mem_cons_self)
    rw [this]
    simp
theorem nar_no {ws : List Int} {B B' : Bk} (n : BNar ws B B') {kinds kinds' : List Int} (hk : ∀ x ∈ kinds', x ∈ kinds) (hne : ∃ x, x ∈ kinds') {person : Nat} (hp : person < B.many) {m : Int} (h : maybeA B person kinds m = false) : sureA B' person kinds' m = false ∧ maybeA B' person kinds' m = false := by
  have up : ∀ (i : Nat) (k' : Key), B'.keys[i]? = some k' → (∃ kd, kd ∈ k'.opens ∧ kd ∈ kinds') → mayHold B.many person m k' = true → maybeA B person kinds m = true := by
    rintro i k' hk' ⟨kd, h1, h2⟩ h3
    obtain ⟨k, hk1, kn⟩ := n.at2 hk'
    refine maybeA_iff.mpr ⟨i, k, hk1, ⟨kd, by rw [← kn.o]; exact h1, hk kd h2⟩, ?_⟩
    unfold mayHold at h3 ⊢
    rw [Bool.or_eq_true, Bool.and_eq_true] at h3 ⊢
    rcases h3 with h3 | ⟨h3, h4⟩
    · exact .inl (by simpa using nar_every kn.n m B.many person (by simpa using h3))
    · exact .inr ⟨by rw [← kn.p]; exact h3, nar_copd kn.n person m h4⟩
  have hm := n.many
  constructor
  · cases q : sureA B' person kinds' m with
    | false => rfl
    | true =>
      obtain ⟨x, hx⟩ := hne
      obtain ⟨i, k', hk', h2, h3⟩ := sureA_iff.mp q x hx
      have := up i k' hk' ⟨x, h3, hx⟩ (by
        unfold mayHold
        rw [Bool.or_eq_true]
        exact .inl (by simpa using sure_every hp (isSure_iff.mp h2)))
      rw [h] at this; cases this
  · cases q : maybeA B' person kinds' m with
    | false => rfl
    | true =>
      obtain ⟨i, k', hk', h2, h3⟩ := maybeA_iff.mp q
      rw [hm] at h3
      have := up i k' hk' h2 h3
      rw [h] at this; cases this
end KR
set_option Elab.async false
set_option linter.all false
set_option maxRecDepth 100000
set_option maxHeartbeats 2000000
namespace KR
open PySem L2
/-! ### _law_like: what is told is what is due -/
@[simp] theorem op_isi (T : Ty) (o : Om) (x : D) : opIsi T o x = (tyD o x).map fun a => .bl (a.sub T) := rfl
theorem bl_ne (o : Om) (a b : Bool) : opNe o (.bl a) (.bl b) = some (.bl (!(a == b))) := rfl
theorem mapM_get {o : Om} {n : Nat} : ∀ {xs : List D} {ps : List PyData}, xs.mapM (toPy o n) = some ps → xs.length = ps.length ∧ ∀ (k : Nat) (p : PyData), ps[k]? = some p → ∃ x, xs[k]? = some x ∧ toPy o n x = some p
  | [], ps, h => by cases h; exact ⟨rfl, fun k p h => by simp at h⟩
  | x :: xs, ps, h => by
    rw [List.mapM_cons] at h
    cases q : toPy o n x with
    | none => rw [q] at h; cases h
    | some y =>
      rw [q] at h
      cases q2 : xs.mapM (toPy o n) with
      | none => rw [q2] at h; cases h
      | some ys =>
        rw [q2] at h
        cases h
        obtain ⟨l, g⟩ := mapM_get q2
        refine ⟨by simp [l], fun k p hk => ?_⟩
        cases k with
        | zero => simp at hk; subst hk; exact ⟨x, rfl, q⟩
        | succ k => simpa using g k p (by simpa using hk)
/-- what a list, a tuple is -/
inductive Seq (o : Om) (n : Nat) (T : Ty) (ps : List PyData) (d : D) : Prop
  | mk (xs : List D) (q : qv o d = some xs) (t : tyD o d = some T) (m : xs.mapM (toPy o n) = some ps) (ni : isN d = false)
theorem toPy_list {o : Om} {n : Nat} {d : D} {ps : List PyData} (h : toPy o (n + 1) d = some (.list ps)) : Seq o n .lst ps d := by
  cases d with
  | lst xs =>
    have h' : (xs.mapM (toPy o n)).map PyData.list = some (.list ps) := h
    cases q : xs.mapM (toPy o n) with
    | none => rw [q] at h'; cases h'
    | some ys => rw [q] at h'; cases h'; exact ⟨xs, rfl, rfl, q, rfl⟩
  | tup xs =>
    have h' : (xs.mapM (toPy o n)).map PyData.tuple = some (.list ps) := h
    cases q : xs.mapM (toPy o n) <;> rw [q] at h' <;> cases h'
  | obj k =>
    have h' : (match o[k]? with | some (.ml xs) => (xs.mapM (toPy o n)).map PyData.list | _ => none) = some (.list ps) := h
    cases q0 : o[k]? with
    | none => rw [q0] at h'; cases h'
    | some mo =>
      cases mo with
      | ml xs =>
        rw [q0] at h'
        have h2 : (xs.mapM (toPy o n)).map PyData.list = some (.list ps) := h'
        cases q : xs.mapM (toPy o n) with
        | none => rw [q] at h2; cases h2
        | some ys => rw [q] at h2; cases h2; exact ⟨xs, qv_obj q0, by simp [tyD, q0], q, rfl⟩
      | _ => rw [q0] at h'; cases h'
  | str s =>
    have h' : (if PyData.strOk s = true then some (PyData.str s) else none) = some (.list ps) := h
    split at h' <;> cases h'
  | _ => cases h
theorem toPy_tuple {o : Om} {n : Nat} {d : D} {ps : List PyData} (h : toPy o (n + 1) d = some (.tuple ps)) : Seq o n .tup ps d := by
  cases d with
  | tup xs =>
    have h' : (xs.mapM (toPy o n)).map PyData.tuple = some (.tuple ps) := h
    cases q : xs.mapM (toPy o n) with
    | none => rw [q] at h'; cases h'
    | some ys => rw [q] at h'; cases h'; exact ⟨xs, rfl, rfl, q, rfl⟩
  | lst xs =>
    have h' : (xs.mapM (toPy o n)).map PyData.list = some (.tuple ps) := h
    cases q : xs.mapM (toPy o n) <;> rw [q] at h' <;> cases h'
  | obj k =>
    have h' : (match o[k]? with | some (.ml xs) => (xs.mapM (toPy o n)).map PyData.list | _ => none) = some (.tuple ps) := h
    cases q0 : o[k]? with
    | none => rw [q0] at h'; cases h'
    | some mo =>
      cases mo with
      | ml xs =>
        rw [q0] at h'
        have h2 : (xs.mapM (toPy o n)).map PyData.list = some (.tuple ps) := h'
        cases q : xs.mapM (toPy o n) <;> rw [q] at h2 <;> cases h2
      | _ => rw [q0] at h'; cases h'
  | str s =>
    have h' : (if PyData.strOk s = true then some (PyData.str s) else none) = some (.tuple ps) := h
    split at h' <;> cases h'
  | _ => cases h
theorem like_seq {n : Nat} {o : Om} {T : Ty} {ps : List PyData} {d e : D} (hT : T = .lst ∨ T = .tup) (hl : ps.length ≤ 1000) (a : Seq o n T ps d) (b : Seq o n T ps e) (ih : ∀ (x y : D) (i : Nat) (hi : ps[i]? = some (ps.getD i .none)), toPy o n x = some (ps.getD i .none) → toPy o n y = some (ps.getD i .none) → phi_l_like n [x, y] o = .ok (.bl true) o) :
    phi_l_like (n + 1) [d, e] o = .ok (.bl true) o := by
  obtain ⟨xs, q1, t1, m1, n1⟩ := a
  obtain ⟨ys, q2, t2, m2, n2⟩ := b
  obtain ⟨l1, g1⟩ := mapM_get m1
  obtain ⟨l2, g2⟩ := mapM_get m2
  refine def_ok ?_
  unfold den_l_like
  have k1 : (-100000 : Int) ≤ ys.length := by omega
  have k2 : (ys.length : Int) ≤ 100000 := by omega
  have k3 : (ps.length : Int) ≤ 100000 := by omega
  have step : ∀ (i : Nat), i < ps.length → ∃ x y, xs[i]? = some x ∧ ys[i]? = some y ∧ phi_l_like n [x, y] o = .ok (.bl true) o := fun i hi => by
    have e0 : ps[i]? = some (ps.getD i .none) := by rw [List.getD_eq_getElem?_getD, List.getElem?_eq_getElem hi]; rfl
    obtain ⟨x, e1, e2⟩ := g1 i _ e0
    obtain ⟨y, e3, e4⟩ := g2 i _ e0
    exact ⟨x, y, e1, e3, ih x y i e0 e2 e4⟩
  rcases hT with rfl | rfl
  all_goals
    simp [q1, q2, t1, t2, n1, n2, Ty.sub, bl_ne, ne_ints, l1, l2, k1, k2, k3]
    refine W_rng0 ps.length (fun i ρ o1 => o1 = o ∧ ∃ a b, ρ = [.d d, .d e, a, b]) ⟨rfl, _, _, rfl⟩ ?_ ?_
    · rintro i ρ o1 hi ⟨rfl, a, b, rfl⟩
      obtain ⟨x, y, e1, e2, e3⟩ := step i hi
      refine ⟨_, rfl, ?_⟩
      simp [q1, q2, atI_nat, e1, e2, e3]
    · rintro ρ o1 ⟨rfl, a, b, rfl⟩
      simp
theorem eqv_strs (s : Str) : PyData.eqv (.str s) (.str s) = true := by
  show (s == s) = true
  exact beq_self_eq_true s
/-- data of a size -/
def small : PyData → Bool
  | .list ps => decide (ps.length ≤ 1000) && smalls ps
  | .tuple ps => decide (ps.length ≤ 1000) && smalls ps
  | _ => true
where smalls : List PyData → Bool
  | [] => true
  | p :: ps => small p && smalls ps
theorem smalls_get : ∀ {ps : List PyData} {k : Nat} {p : PyData}, small.smalls ps = true → ps[k]? = some p → small p = true
  | [], k, p, _, h => by simp at h
  | q :: ps, 0, p, h, e => by simp at e; subst e; exact (Bool.and_eq_true _ _ ▸ h : _ ∧ _).1
  | q :: ps, k + 1, p, h, e => smalls_get (k := k) ((Bool.and_eq_true _ _ ▸ h : _ ∧ _).2) (by simpa using e)
theorem toPy_leaf {o : Om} {n : Nat} {d : D} {p : PyData} (h : toPy o (n + 1) d = some p) : (d = .non ∧ p = .none) ∨ (∃ b, d = .bl b ∧ p = .bool b) ∨ (∃ i, d = .int i ∧ p = .int i) ∨ (∃ s, d = .str s ∧ p = .str s ∧ PyData.strOk s = true) ∨ (∃ ps, p = .list ps) ∨ (∃ ps, p = .tuple ps) := by
  cases d with
  | non => cases h; exact .inl ⟨rfl, rfl⟩
  | exn _ _ _ => cases h
  | bl b => cases h; exact .inr (.inl ⟨b, rfl, rfl⟩)
  | int i => cases h; exact .inr (.inr (.inl ⟨i, rfl, rfl⟩))
  | str s =>
    have h' : (if PyData.strOk s = true then some (PyData.str s) else none) = some p := h
    by_cases q : PyData.strOk s = true
    · rw [if_pos q] at h'; cases h'; exact .inr (.inr (.inr (.inl ⟨s, rfl, rfl, q⟩)))
    · rw [if_neg q] at h'; cases h'
  | tup xs =>
    have h' : (xs.mapM (toPy o n)).map PyData.tuple = some p := h
    cases q : xs.mapM (toPy o n) with
    | none => rw [q] at h'; cases h'
    | some ys => rw [q] at h'; cases h'; exact .inr (.inr (.inr (.inr (.inr ⟨_, rfl⟩))))
  | lst xs =>
    have h' : (xs.mapM (toPy o n)).map PyData.list = some p := h
    cases q : xs.mapM (toPy o n) with
    | none => rw [q] at h'; cases h'
    | some ys => rw [q] at h'; cases h'; exact .inr (.inr (.inr (.inr (.inl ⟨_, rfl⟩))))
  | obj k =>
    have h' : (match o[k]? with | some (.ml xs) => (xs.mapM (toPy o n)).map PyData.list | _ => none) = some p := h
    cases q0 : o[k]? with
    | none => rw [q0] at h'; cases h'
    | some mo =>
      cases mo with
      | ml xs =>
        rw [q0] at h'
        have h2 : (xs.mapM (toPy o n)).map PyData.list = some p := h'
        cases q : xs.mapM (toPy o n) with
        | none => rw [q] at h2; cases h2
        | some ys => rw [q] at h2; cases h2; exact .inr (.inr (.inr (.inr (.inl ⟨_, rfl⟩))))
      | _ => rw [q0] at h'; cases h'
  | scr _ => cases h
theorem like_ok : ∀ (n : Nat) (o : Om) (d e : D) (p : PyData), small p = true → toPy o n d = some p → toPy o n e = some p → phi_l_like n [d, e] o = .ok (.bl true) o
  | 0, o, d, e, p, _, h, _ => by cases h
  | n + 1, o, d, e, p, hs, h1, h2 => by
    rcases toPy_leaf h1 with ⟨rfl, rfl⟩ | ⟨b, rfl, rfl⟩ | ⟨i, rfl, rfl⟩ | ⟨s, rfl, rfl, ok⟩ | ⟨ps, rfl⟩ | ⟨ps, rfl⟩
    · rcases toPy_leaf h2 with ⟨rfl, q⟩ | ⟨b', rfl, q⟩ | ⟨i', rfl, q⟩ | ⟨s', rfl, q, _⟩ | ⟨ps, q⟩ | ⟨ps, q⟩ <;> cases q
      refine def_ok ?_
      unfold den_l_like
      have z : isN .non = true := rfl
      simp [tyD, Ty.sub, z]
    · rcases toPy_leaf h2 with ⟨rfl, q⟩ | ⟨b', rfl, q⟩ | ⟨i', rfl, q⟩ | ⟨s', rfl, q, _⟩ | ⟨ps, q⟩ | ⟨ps, q⟩ <;> cases q
      refine def_ok ?_
      unfold den_l_like
      have e : opEq o (.bl b) (.bl b) = some (.bl true) := by
        show some (D.bl (b == b)) = _
        rw [beq_self_eq_true]
      simp [tyD, Ty.sub, e]
    · rcases toPy_leaf h2 with ⟨rfl, q⟩ | ⟨b', rfl, q⟩ | ⟨i', rfl, q⟩ | ⟨s', rfl, q, _⟩ | ⟨ps, q⟩ | ⟨ps, q⟩ <;> cases q
      refine def_ok ?_
      unfold den_l_like
      simp [tyD, Ty.sub, eq_ints]
    · rcases toPy_leaf h2 with ⟨rfl, q⟩ | ⟨b', rfl, q⟩ | ⟨i', rfl, q⟩ | ⟨s', rfl, q, _⟩ | ⟨ps, q⟩ | ⟨ps, q⟩ <;> cases q
      refine def_ok ?_
      unfold den_l_like
      have e : opEq o (.str s) (.str s) = some (.bl true) := by
        rw [opEq_of (toPy_str o 8 ok) (toPy_str o 8 ok), eqv_strs]
      simp [tyD, Ty.sub, e]
    · have hs' : (decide (ps.length ≤ 1000) && small.smalls ps) = true := hs
      rw [Bool.and_eq_true, decide_eq_true_eq] at hs'
      exact like_seq (.inl rfl) hs'.1 (toPy_list h1) (toPy_list h2) fun x y i hi q1 q2 => like_ok n o x y _ (smalls_get hs'.2 hi) q1 q2
    · have hs' : (decide (ps.length ≤ 1000) && small.smalls ps) = true := hs
      rw [Bool.and_eq_true, decide_eq_true_eq] at hs'
      exact like_seq (.inr rfl) hs'.1 (toPy_tuple h1) (toPy_tuple h2) fun x y i hi q1 q2 => like_ok n o x y _ (smalls_get hs'.2 hi) q1 q2
end KR
set_option Elab.async false
set_option linter.all false
set_option maxRecDepth 100000
set_option maxHeartbeats 2000000
namespace KR
open PySem L2
/-! ### _law_may: own going through a row -/
theorem foldl_max (rs : List Row) : ∀ a b : Int, rs.foldl (fun h r => max h r.e) (max a b) = max a (rs.foldl (fun h r => max h r.e) b) := by
  induction rs with
  | nil => intro a b; rfl
  | cons r rs ih =>
    intro a b
    simp only [List.foldl_cons]
    rw [Int.max_assoc, ih]
theorem maxL_fold : ∀ (rs : List Row) (x : Int), maxL (x :: rs.map (·.e)) = rs.foldl (fun h r => max h r.e) x
  | [], x => rfl
  | r :: rs, x => by
    have e : maxL (x :: (r :: rs).map (·.e)) = max x (maxL (r.e :: rs.map (·.e))) := rfl
    rw [e, maxL_fold rs r.e, List.foldl_cons, foldl_max]
theorem minL_fold : ∀ (rs : List Row) (x : Int), minL (x :: rs.map (·.l)) = rs.foldr (fun r h => min r.l h) x
  | [], x => rfl
  | r :: rs, x => by
    have e : minL (x :: (r :: rs).map (·.l)) = min x (minL (r.l :: rs.map (·.l))) := rfl
    rw [e, minL_fold rs r.l, List.foldr_cons]
    clear e
    induction rs with
    | nil => show min x r.l = min r.l x; omega
    | cons q rs ih => simp only [List.foldr_cons]; omega
theorem mnL_1000 : ∀ {rs : List Row}, rs ≠ [] → (∀ r ∈ rs, r.l ≤ 999) → rs.foldr (fun r h => min r.l h) 1000 = mnL rs
  | [], h, _ => (h rfl).elim
  | [r], _, h9 => by
    have := h9 r List.mem_cons_self
    show min r.l 1000 = min r.l 999
    omega
  | r :: q :: rs, _, h9 => by
    have := mnL_1000 (rs := q :: rs) (by simp) fun x hx => h9 x (List.mem_cons_of_mem _ hx)
    rw [List.foldr_cons, this]
    rfl
theorem may_soon (o : Om) (rs : List Row) (i : Nat) : opMax o [.lst (.int 0 :: (rs.take i).map fun r => D.int r.e)] = some (.int (soon rs i)) := by
  have e : (D.int 0 :: (rs.take i).map fun r => D.int r.e) = (0 :: (rs.take i).map (·.e)).map D.int := by rw [List.map_cons, List.map_map]; rfl
  have f : opMax o [.lst (.int 0 :: (rs.take i).map fun r => D.int r.e)] = some (.int (maxL (0 :: (rs.take i).map (·.e)))) := by
    rw [e]
    show (match (some ((0 :: (rs.take i).map (·.e)).map D.int)).bind allI with | some (a :: r) => some (D.int (maxL (a :: r))) | _ => none) = _
    rw [Option.bind_some, allI_ints]
  rw [f, maxL_fold]
  rfl
theorem may_end (o : Om) (rs : List Row) (h9 : ∀ r ∈ rs, r.l ≤ 999) (i : Nat) : opMin o [.lst (.int 1000 :: (rs.drop i).map fun r => D.int r.l)] = some (.int (ends rs i)) := by
  have e : (D.int 1000 :: (rs.drop i).map fun r => D.int r.l) = (1000 :: (rs.drop i).map (·.l)).map D.int := by rw [List.map_cons, List.map_map]; rfl
  have f : opMin o [.lst (.int 1000 :: (rs.drop i).map fun r => D.int r.l)] = some (.int (minL (1000 :: (rs.drop i).map (·.l)))) := by
    rw [e]
    show (match (some ((1000 :: (rs.drop i).map (·.l)).map D.int)).bind allI with | some (a :: r) => some (D.int (minL (a :: r))) | _ => none) = _
    rw [Option.bind_some, allI_ints]
  rw [f, minL_fold]
  unfold ends
  by_cases h : i < rs.length
  · rw [if_pos h, mnL_1000 (by intro z; rw [List.drop_eq_nil_iff] at z; omega) fun r hr => h9 r (List.mem_of_mem_drop hr)]
  · rw [if_neg h, List.drop_eq_nil_of_le (by omega)]; rfl
/-- [row[1] for row in rows[:k]] and the like -/
theorem lc_e {p : Nat} {ρ : Rho} {o : Om} (rs : List Row) (hl : rs.length ≤ 1000) (hp : p < ρ.length) : loopD (pNm p) dYes (d2 opIx (dVar p) (dC (.int 1))) (.seq (.lst (rs.map eRow))) ρ o = .ok (rs.map fun r => D.int r.e) o := by
  rw [lc_l eRow rs (by omega) (fun _ => true) (·.e) D.int]
  · simp
  · intro x _
    exact ⟨_, rfl, rfl, fun _ => by simp [List.getElem?_set_self hp, eRow]⟩
theorem lc_lt {p : Nat} {ρ : Rho} {o : Om} (rs : List Row) (hl : rs.length ≤ 1000) (hp : p < ρ.length) : loopD (pNm p) dYes (d2 opIx (dVar p) (dC (.int 2))) (.seq (.lst (rs.map eRow))) ρ o = .ok (rs.map fun r => D.int r.l) o := by
  rw [lc_l eRow rs (by omega) (fun _ => true) (·.l) D.int]
  · simp
  · intro x _
    exact ⟨_, rfl, rfl, fun _ => by simp [List.getElem?_set_self hp, eRow]⟩
theorem may_eq (rs : List Row) (m : Int) (o : Om) (hl : rs.length ≤ 8) (h9 : ∀ r ∈ rs, r.l ≤ 999) : phi_l_may [eRows rs, .int m] o = .ok (.lst ((whoS rs m).map eO)) o := by
  refine def_ok ?_
  unfold den_l_may
  have h3 : (-100000 : Int) ≤ rs.length + 1 := by omega
  have h4 : (rs.length : Int) + 1 ≤ 100000 := by omega
  simp [h3, h4]
  refine W_rng0 (rs.length + 1) (fun i ρ o1 => o1 = o ∧ ∃ a b c d, ρ = [.d (eRows rs), .d (.int m), .own ((((List.range i).filter (poss rs m)).map (wat rs)).map eO), a, b, c, d]) ⟨rfl, _, _, _, _, rfl⟩ ?_ ?_
  · rintro i ρ o1 hi ⟨rfl, a, b, c, d, rfl⟩
    refine ⟨_, rfl, ?_⟩
    have l1 : (rs.take i).length ≤ 1000 := by rw [List.length_take]; omega
    have l2 : (rs.drop i).length ≤ 1000 := by rw [List.length_drop]; omega
    have a1 : opAdd o1 (.lst [.int 0]) (.lst ((rs.take i).map fun r => D.int r.e)) = some (.lst (.int 0 :: (rs.take i).map fun r => D.int r.e)) := op_addL (by simp; omega)
    have a2 : opAdd o1 (.lst [.int 1000]) (.lst ((rs.drop i).map fun r => D.int r.l)) = some (.lst (.int 1000 :: (rs.drop i).map fun r => D.int r.l)) := op_addL (by simp; omega)
    have fl : ((List.range i).filter (poss rs m)).length < 100000 := by have := List.length_filter_le (poss rs m) (List.range i); rw [List.length_range] at this; omega
    have el := elt_wat o1 rs [.d (eRows rs), .d (.int m), .own ((((List.range i).filter (poss rs m)).map (wat rs)).map eO), .d (eN i), .d (.int (soon rs i)), .d (.int (ends rs i)), d] 0 3 i (by omega) (by simp) (by simp)
    have fs : (List.range (i + 1)).filter (poss rs m) = (List.range i).filter (poss rs m) ++ if poss rs m i = true then [i] else [] := by rw [List.range_succ, List.filter_append]; simp [List.filter_cons]
    simp [-ev_If, -List.map_take, -List.map_drop, -List.map_map, sl_to o1 rs i (by omega), sl_from o1 rs i (by omega), eTk, eDr, wipeE]
    rw [lc_e (rs.take i) l1 (by simp), V_ok, a1]
    simp [-ev_If, -List.map_take, -List.map_drop, -List.map_map, may_soon, sl_from o1 rs i (by omega), eDr, wipeE]
    rw [lc_lt (rs.drop i) l2 (by simp), V_ok, a2]
    simp [-ev_If, -List.map_take, -List.map_drop, -List.map_map, may_end o1 rs h9]
    unfold eN at el
    rw [fs]
    by_cases q1 : soon rs i ≤ m
    · by_cases q2 : m < ends rs i
      · have e : poss rs m i = true := by simp [poss, q1, q2]
        simp [-ev_If, -List.map_map, q1, q2, el, fl, e]
      · have e : poss rs m i = false := by simp [poss, q2]
        simp [-ev_If, q1, q2, e]
    · have e : poss rs m i = false := by simp [poss, q1]
      simp [-ev_If, q1, e]
  · rintro ρ o1 ⟨rfl, a, b, c, d, rfl⟩
    simp [whoS, places]
end KR
set_option Elab.async false
set_option linter.all false
set_option maxRecDepth 100000
set_option maxHeartbeats 4000000
namespace KR
open PySem L2
/-! ### _law_had, _law_could: by own windows -/
theorem in_eT (o : Om) (w : Option Int) (ws : List (Option Int)) : opIn o (eO w) (.tup (ws.map eO)) = some (.bl (ws.contains w)) := by
  have := in_eOs o w ws
  unfold opIn at this ⊢
  exact this
theorem had_soon (o : Om) (rs : List Row) (h0 : ∀ r ∈ rs, 0 ≤ r.e) (i : Nat) (hi : i < rs.length) : opMax o [.lst ((rs.take (i + 1)).map fun r => D.int r.e)] = some (.int (soon rs (i + 1))) := by
  cases rs with
  | nil => simp at hi
  | cons r t =>
    have hr := h0 r List.mem_cons_self
    have e : (((r :: t).take (i + 1)).map fun r => D.int r.e) = (r.e :: (t.take i).map (·.e)).map D.int := by rw [List.take_succ_cons, List.map_cons, List.map_cons, List.map_map]; rfl
    have f : opMax o [.lst (((r :: t).take (i + 1)).map fun r => D.int r.e)] = some (.int (maxL (r.e :: (t.take i).map (·.e)))) := by
      rw [e]
      show (match (some ((r.e :: (t.take i).map (·.e)).map D.int)).bind allI with | some (a :: r) => some (D.int (maxL (a :: r))) | _ => none) = _
      rw [Option.bind_some, allI_ints]
    rw [f, maxL_fold]
    unfold soon
    rw [List.take_succ_cons, List.foldl_cons]
    have : max 0 r.e = r.e := by omega
    rw [this]
theorem had_eq (rs : List Row) (person : Nat) (m : Int) (o : Om) (hl : rs.length ≤ 8) (hr : ∀ r ∈ rs, 0 ≤ r.e ∧ r.l ≤ 999) : ∀ R, R = eRows rs → phi_l_had [R, .int person, .int m] o = .ok (.bl (copd rs person m)) o := by
  have key : ∀ R, R = eRows rs → V (fun d o1 => d = .bl (copd rs person m) ∧ o1 = o) (fun _ _ => False) (phi_l_had [R, .int person, .int m] o) := by
    intro R hR
    refine def_V ?_
    unfold den_l_had
    subst hR
    have h3 : (-100000 : Int) ≤ rs.length + 1 := by omega
    have h4 : (rs.length : Int) + 1 ≤ 100000 := by omega
    simp [iR2k, h3, h4]
    refine W_rng rs.length (fun i ρ o1 => o1 = o ∧ (∀ j, j < i → cop rs person m j = false) ∧ ∃ a3 a4 a5 a6, ρ = [.d (eRows rs), .d (.int person), .d (.int m), a3, a4, a5, a6]) ⟨rfl, fun j hj => by omega, _, _, _, _, rfl⟩ ?_ ?_
    · rintro i ρ o1 hi ⟨rfl, hp, a3, a4, a5, a6, rfl⟩
      refine ⟨_, rfl, ?_⟩
      have e1 : (1 : Int) + (i : Int) = ((i + 1 : Nat) : Int) := by omega
      have e2 : ((i + 1 : Nat) : Int) - 1 = (i : Int) := by omega
      have l1 : (rs.take (i + 1)).length ≤ 1000 := by rw [List.length_take]; omega
      have l2 : (rs.drop (i + 1)).length ≤ 1000 := by rw [List.length_drop]; omega
      have a2 : opAdd o1 (.lst [.int 1000]) (.lst ((rs.drop (i + 1)).map fun r => D.int r.l)) = some (.lst (.int 1000 :: (rs.drop (i + 1)).map fun r => D.int r.l)) := op_addL (by simp; omega)
      have iw : opIn o1 (eO rs[i].w) (.tup [.int person, .non]) = some (.bl ([some (person : Int), none].contains rs[i].w)) := in_eT o1 rs[i].w [some (person : Int), none]
      have cp : cop rs person m i = ((rs[i].w == none || rs[i].w == some (person : Int)) && (decide (soon rs (i + 1) ≤ m) && decide (soon rs (i + 1) < ends rs (i + 1)))) := by
        unfold cop
        rw [List.getElem?_eq_getElem hi]
      have cw : [some (person : Int), none].contains rs[i].w = (rs[i].w == none || rs[i].w == some (person : Int)) := by
        cases rs[i].w with
        | none => rfl
        | some x => show (x == (person : Int) || (false || false)) = (false || (x == (person : Int))); simp
      rw [cw] at iw
      rw [e1]
      have t1 := sl_to o1 rs (i + 1) (by omega)
      have t2 := sl_from o1 rs (i + 1) (by omega)
      rw [Int.natCast_add, Int.natCast_one] at t1 t2 e2
      have hs := had_soon o1 rs (fun r hr' => (hr r hr').1) i hi
      have he := may_end o1 rs (fun r hr' => (hr r hr').2) (i + 1)
      simp [-List.map_take, -List.map_drop, -List.map_map, t1, t2, eTk, eDr, wipeE]
      rw [lc_e (rs.take (i + 1)) l1 (by simp), V_ok, hs]
      simp [-List.map_take, -List.map_drop, -List.map_map, t1, t2, eTk, eDr, wipeE]
      rw [lc_lt (rs.drop (i + 1)) l2 (by simp), V_ok, a2]
      simp [-List.map_take, -List.map_drop, -List.map_map, he, e2, atI_nat, List.getElem?_eq_getElem hi, eRow]
      have hT : cop rs person m i = true → copd rs person m = true := fun hc => List.any_eq_true.mpr ⟨i, List.mem_range.mpr hi, hc⟩
      have hF : cop rs person m i = false → ∀ j, j < i + 1 → cop rs person m j = false := fun hc j hj => by
        rcases Nat.lt_or_ge j i with q | q
        · exact hp j q
        · have e : j = i := by omega
          rw [e]; exact hc
      simp only [iw, Res.of_some, V_ok, asB_bl]
      cases q1 : (rs[i].w == none || rs[i].w == some (person : Int)) with
      | true =>
        rw [q1] at cp
        by_cases q2 : soon rs (i + 1) ≤ m
        · by_cases q3 : soon rs (i + 1) < ends rs (i + 1)
          · simp [q2, q3]
            exact hT (by rw [cp]; simp [q2, q3])
          · simp [q2, q3]
            exact hF (by rw [cp]; simp [q3])
        · simp [q2]
          exact hF (by rw [cp]; simp [q2])
      | false =>
        simp
        exact hF (by rw [cp, q1]; rfl)
    · rintro ρ o1 ⟨rfl, hp, a3, a4, a5, a6, rfl⟩
      have : copd rs person m = false := by
        unfold copd
        rw [List.any_eq_false]
        intro x hx
        rw [hp x (List.mem_range.mp hx)]
        decide
      simp [this]
  intro R hR
  exact V_eq (key R hR)
/-- the law's own kinds: by the places -/
def kindsL (rs : List Row) (m : Int) : List Int := (places rs m).map (watI rs)
theorem mem_kindsL {rs : List Row} {m x : Int} : x ∈ kindsL rs m ↔ x ∈ kindsOf rs m := by
  rw [mem_kinds]
  unfold kindsL
  rw [List.mem_map]
theorem eq_nilO (o : Om) (ws : List (Option Int)) : opEq o (.lst (ws.map eO)) (.lst []) = some (.bl ws.isEmpty) := by
  obtain ⟨ps, h1, h2⟩ := toPy_eOs o 7 ws
  have e : toPy o 9 (.lst (ws.map eO)) = some (.list ps) := by rw [toPy_lst, h1]; rfl
  rw [opEq_of e (lst_nil o)]
  show some (D.bl (PyData.eqvAll ps [])) = _
  rw [eqvAll_nil]
  cases ps <;> cases ws <;> simp_all
theorem notIn_tints (o : Om) (i : Int) (ns : List Int) : opNotIn o (.int i) (eTs ns) = some (.bl (!ns.contains i)) := by
  have := notIn_ints o i ns
  unfold opNotIn at this ⊢
  exact this
theorem all_sure {ws : List (Option Int)} (hne : ws ≠ []) (person : Nat) : (ws.filter fun w => !(w == some (person : Int))).isEmpty = (sureOf ws == some (person : Int)) := by
  rw [Bool.eq_iff_iff, List.isEmpty_iff, List.filter_eq_nil_iff, beq_iff_eq, sureOf_iff]
  constructor
  · intro h
    exact ⟨hne, fun w hw => by simpa using h w hw, by omega⟩
  · rintro ⟨_, h, _⟩ w hw
    simp [h w hw]
def leftOf (K : List Int) (person : Nat) (m : Int) (ks : List Key) : List Int := K.filter fun kd => !(ks.any fun k => isSure person m k && k.opens.contains kd)
def wordOf (K : List Int) (many person : Nat) (m : Int) (ks : List Key) : Bool := ks.any fun k => mayHold many person m k && !(K.filter fun kd => k.opens.contains kd).isEmpty
theorem lcould_eq {persons nk nr nd : Nat} {far : Int} {keys : List Key} {doors : List (List Row)} (hc : CaseOk persons far nk nr nd keys doors) (hp : 1 ≤ persons ∧ persons ≤ 8) (h1 : nk ≤ 6) (h2 : nr ≤ 8) (h3 : nd ≤ 4) (hf : far ≤ 999) (door : Nat) (hd : door < doors.length) (person : Nat) (hpe : person < persons) (m : Int) (h0 : 0 ≤ m ∧ m ≤ 999) (o : Om) :
    phi_l_could [eCase persons keys doors, .int person, .int door, .int m] o = .ok (.str (ans ⟨persons, doors, keys⟩ person (kindsOf doors[door] m) m)) o := by
  have hdo := hc.ds _ (List.getElem_mem hd)
  have hdr : Door doors[door] := fun r hr => by obtain ⟨k, hk, _⟩ := hdo.kind r hr; exact ⟨k, hk⟩
  have hrl := hdo.rl
  have mk := may_eq doors[door] m o (by omega) fun r hr => by have := hdo.ok r hr; omega
  rw [whoS_door hdr m] at mk
  have pl := places_len doors[door] m
  have kl : (kindsL doors[door] m).length ≤ 9 := by unfold kindsL; rw [List.length_map]; omega
  rw [show (places doors[door] m).map (watI doors[door]) = kindsL doors[door] m from rfl] at mk
  have hkl := hc.kl
  refine def_ok ?_
  unfold den_l_could
  have li : opList o [.lst ((kindsL doors[door] m).map .int)] = some (.lst ((kindsL doors[door] m).map .int)) := rfl
  simp [eCase, atI_nat, List.getElem?_eq_getElem hd, mk, li]
  rw [show D.tup [.int persons, .lst (keys.map eKey), .lst (doors.map eRows)] = eCase persons keys doors from rfl]
  refine W_lst eKey keys (fun r ρ o1 => o1 = o ∧ ∃ done, done ++ r = keys ∧ ∃ a7 a8 a9 a10 a11 a12 a13, ρ = [.d (eCase persons keys doors), .d (.int person), .d (.int door), .d (.int m), .d (.lst ((kindsL doors[door] m).map .int)), .d (.lst ((leftOf (kindsL doors[door] m) person m done).map .int)),
    .d (.str (if wordOf (kindsL doors[door] m) persons person m done = true then "maybe" else "no")), a7, a8, a9, a10, a11, a12, a13]) ?_ ?_ ?_
  · exact ⟨rfl, [], rfl, .no, .no, .no, .no, .no, .no, .no, by simp [leftOf, wordOf]⟩
  · rintro k r ρ o1 ⟨rfl, done, hdone, a7, a8, a9, a10, a11, a12, a13, rfl⟩
    have hk : k ∈ keys := by rw [← hdone]; simp
    have hko := hc.ks k hk
    have hkr := hko.rl
    have my := may_eq k.rows m o1 (by omega) fun r hr => by have := hko.ok r hr; omega
    have wl : (whoS k.rows m).length ≤ 9 := by unfold whoS; rw [List.length_map]; have := places_len k.rows m; omega
    have wne : whoS k.rows m ≠ [] := whoS_ne hko.fit (fun r hr => by have := hko.ok r hr; omega) h0.1 h0.2
    have hd := had_eq k.rows person m o1 (by omega) fun r hr => by have := hko.ok r hr; omega
    have ll : (leftOf (kindsL doors[door] m) person m done).length ≤ 9 := Nat.le_trans (List.length_filter_le _ _) kl
    have i1 : opIn o1 (.int (person : Int)) (.lst ((whoS k.rows m).map eO)) = some (.bl ((whoS k.rows m).contains (some (person : Int)))) := in_eOs o1 (some (person : Int)) _
    have i2 : opIn o1 .non (.lst ((whoS k.rows m).map eO)) = some (.bl ((whoS k.rows m).contains none)) := in_eOs o1 none _
    have ec : (everyOf persons (whoS k.rows m)).contains person = ((whoS k.rows m).contains (some (person : Int)) || (whoS k.rows m).contains none) := by
      rw [Bool.eq_iff_iff, List.contains_iff_mem]
      unfold everyOf
      rw [List.mem_filter, List.mem_range]
      simp [hpe]
    have orq : ∀ ρ : Rho, ρ[1]? = some (.d (.int person)) → ρ[10]? = some (.d (.lst ((whoS k.rows m).map eO))) → ρ[8]? = some (.d (.bl k.plain)) → ρ[9]? = some (.d (eRows k.rows)) → ρ[3]? = some (.d (.int m)) →
        dOrV (d2 opIn (dVar 1) (dVar 10)) (dOrV (d2 opIn (dC .non) (dVar 10)) (dAndV (dVar 8) (dCall 3 phi_l_had (dCons (dVar 9) (dCons (dVar 1) (dCons (dVar 3) dNil)))))) ρ o1 = .ok (.bl (mayHold persons person m k)) o1 := by
      intro ρ r1 r10 r8 r9 r3
      unfold mayHold
      rw [ec]
      generalize (whoS k.rows m).contains (some (person : Int)) = c1 at i1
      generalize (whoS k.rows m).contains none = c2 at i2
      cases c1 with
      | true => simp [r1, r10, i1]
      | false =>
        cases c2 with
        | true => simp [r1, r10, i1, i2]
        | false =>
          cases c3 : k.plain with
          | true => simp [r1, r10, i1, i2, r8, c3, r9, r3, hd]
          | false => simp [r1, r10, i1, i2, r8, c3]
    -- the end of a turn
    have wf : wordOf (kindsL doors[door] m) persons person m (done ++ [k]) = (wordOf (kindsL doors[door] m) persons person m done || (mayHold persons person m k && !((kindsL doors[door] m).filter fun kd => k.opens.contains kd).isEmpty)) := by
      unfold wordOf
      rw [List.any_append, List.any_cons, List.any_nil, Bool.or_false]
    have fin : ∀ (a10 a11 a12 a13 : EV), W (fun ρ o1_1 => o1_1 = o1 ∧ ∃ done, done ++ r = keys ∧ ∃ a7 a8 a9 a10 a11 a12 a13, ρ = [.d (eCase persons keys doors), .d (.int person), .d (.int door), .d (.int m), .d (.lst ((kindsL doors[door] m).map .int)), .d (.lst ((leftOf (kindsL doors[door] m) person m done).map .int)),
        .d (.str (if wordOf (kindsL doors[door] m) persons person m done = true then "maybe" else "no")), a7, a8, a9, a10, a11, a12, a13]) (fun d o1_1 => d = .str (ans ⟨persons, doors, keys⟩ person (kindsOf doors[door] m) m) ∧ o1_1 = o1) (fun _ _ => False)
        (dSeq (dAsg (dOrV (d2 opIn (dVar 1) (dVar 10)) (dOrV (d2 opIn (dC .non) (dVar 10)) (dAndV (dVar 8) (dCall 3 phi_l_had (dCons (dVar 9) (dCons (dVar 1) (dCons (dVar 3) dNil))))))) (pNm 11)) (dIfS (dAnd (dT (dVar 11)) (dT (d2 opNe (dLc (iSeq' (dVar 4)) (pNm 13) (dT (d2 opIn (dVar 13) (dVar 7))) (dVar 13) [13]) (dN opLst dNil)))) (dAsg (dC (.str "maybe")) (pNm 6)) dSkip)
          [.d (eCase persons keys doors), .d (.int person), .d (.int door), .d (.int m), .d (.lst ((kindsL doors[door] m).map .int)), .d (.lst ((leftOf (kindsL doors[door] m) person m (done ++ [k])).map .int)), .d (.str (if wordOf (kindsL doors[door] m) persons person m done = true then "maybe" else "no")), .d (eTs k.opens), .d (.bl k.plain), .d (eRows k.rows), .d (.lst ((whoS k.rows m).map eO)), a11, a12, a13] o1) := by
      intro a10 a11 a12 a13
      simp [-ev_OrV, orq]
      cases hm : mayHold persons person m k with
      | false =>
        simp
        exact ⟨done ++ [k], by simpa using hdone, rfl, by rw [wf, hm]; simp⟩
      | true =>
        simp
        rw [lc_l D.int (kindsL doors[door] m) (by omega) (fun kd => k.opens.contains kd) id D.int]
        · simp only [V_ok, List.map_id]
          generalize (kindsL doors[door] m).filter (fun kd => k.opens.contains kd) = F at wf
          have nf := ne_nil o1 F
          cases F with
          | nil =>
            simp at nf ⊢
            simp [nf]
            exact ⟨done ++ [k], by simpa using hdone, rfl, by rw [wf, hm]; simp⟩
          | cons f F =>
            simp at nf ⊢
            simp [nf]
            exact ⟨done ++ [k], by simpa using hdone, rfl, by rw [wf, hm]; simp⟩
        · intro kd _
          refine ⟨_, rfl, ?_, fun _ => rfl⟩
          simp [wipeE, in_tints]
    have lf : ∀ s : Bool, isSure person m k = s → leftOf (kindsL doors[door] m) person m (done ++ [k]) = if s = true then (leftOf (kindsL doors[door] m) person m done).filter fun kd => !k.opens.contains kd else leftOf (kindsL doors[door] m) person m done := fun s hs => by
        unfold leftOf
        cases s with
        | true =>
          rw [if_pos rfl, List.filter_filter]
          refine List.filter_congr fun x _ => ?_
          rw [List.any_append, List.any_cons, hs]
          simp [Bool.and_comm]
        | false =>
          rw [if_neg (by decide)]
          refine List.filter_congr fun x _ => ?_
          rw [List.any_append, List.any_cons, hs]
          simp
    have e1 : ∀ a10 : EV, dAsg (dCall 2 phi_l_may (dCons (dVar 9) (dCons (dVar 3) dNil))) (pNm 10) [.d (eCase persons keys doors), .d (.int person), .d (.int door), .d (.int m), .d (.lst ((kindsL doors[door] m).map .int)), .d (.lst ((leftOf (kindsL doors[door] m) person m done).map .int)), .d (.str (if wordOf (kindsL doors[door] m) persons person m done = true then "maybe" else "no")), .d (eTs k.opens), .d (.bl k.plain), .d (eRows k.rows), a10, a11, a12, a13] o1 = .nx [.d (eCase persons keys doors), .d (.int person), .d (.int door), .d (.int m), .d (.lst ((kindsL doors[door] m).map .int)), .d (.lst ((leftOf (kindsL doors[door] m) person m done).map .int)), .d (.str (if wordOf (kindsL doors[door] m) persons person m done = true then "maybe" else "no")), .d (eTs k.opens), .d (.bl k.plain), .d (eRows k.rows), .d (.lst ((whoS k.rows m).map eO)), a11, a12, a13] o1 := fun a10 => by simp [my]
    have e2 : dIfS (dT (d2 opEq (dLc (iSeq' (dVar 10)) (pNm 12) (dT (d2 opNe (dVar 12) (dVar 1))) (dVar 12) [12]) (dN opLst dNil))) (dAsg (dLc (iSeq' (dVar 5)) (pNm 13) (dT (d2 opNotIn (dVar 13) (dVar 7))) (dVar 13) [13]) (pNm 5)) dSkip [.d (eCase persons keys doors), .d (.int person), .d (.int door), .d (.int m), .d (.lst ((kindsL doors[door] m).map .int)), .d (.lst ((leftOf (kindsL doors[door] m) person m done).map .int)), .d (.str (if wordOf (kindsL doors[door] m) persons person m done = true then "maybe" else "no")), .d (eTs k.opens), .d (.bl k.plain), .d (eRows k.rows), .d (.lst ((whoS k.rows m).map eO)), a11, a12, a13] o1 = .nx [.d (eCase persons keys doors), .d (.int person), .d (.int door), .d (.int m), .d (.lst ((kindsL doors[door] m).map .int)), .d (.lst ((leftOf (kindsL doors[door] m) person m (done ++ [k])).map .int)), .d (.str (if wordOf (kindsL doors[door] m) persons person m done = true then "maybe" else "no")), .d (eTs k.opens), .d (.bl k.plain), .d (eRows k.rows), .d (.lst ((whoS k.rows m).map eO)), a11, a12, a13] o1 := by
      have es : (sureOf (whoS k.rows m) == some (person : Int)) = isSure person m k := rfl
      have t1 : loopD (pNm 12) (dT (d2 opNe (dVar 12) (dVar 1))) (dVar 12) (.seq (.lst ((whoS k.rows m).map eO))) (wipeE [.d (eCase persons keys doors), .d (.int person), .d (.int door), .d (.int m), .d (.lst ((kindsL doors[door] m).map .int)), .d (.lst ((leftOf (kindsL doors[door] m) person m done).map .int)), .d (.str (if wordOf (kindsL doors[door] m) persons person m done = true then "maybe" else "no")), .d (eTs k.opens), .d (.bl k.plain), .d (eRows k.rows), .d (.lst ((whoS k.rows m).map eO)), a11, a12, a13] [12]) o1 = .ok (((whoS k.rows m).filter fun w => !(w == some (person : Int))).map eO) o1 := by
        rw [lc_l eO (whoS k.rows m) (by omega) (fun w => !(w == some (person : Int))) id eO]
        · simp only [List.map_id]
        · intro w _
          refine ⟨_, rfl, ?_, fun _ => rfl⟩
          have ne : opNe o1 (eO w) (.int (person : Int)) = some (.bl (!(w == some (person : Int)))) := ne_eO o1 w (some (person : Int))
          simp [wipeE, ne]
      have t2 : loopD (pNm 13) (dT (d2 opNotIn (dVar 13) (dVar 7))) (dVar 13) (.seq (.lst ((leftOf (kindsL doors[door] m) person m done).map .int))) (wipeE [.d (eCase persons keys doors), .d (.int person), .d (.int door), .d (.int m), .d (.lst ((kindsL doors[door] m).map .int)), .d (.lst ((leftOf (kindsL doors[door] m) person m done).map .int)), .d (.str (if wordOf (kindsL doors[door] m) persons person m done = true then "maybe" else "no")), .d (eTs k.opens), .d (.bl k.plain), .d (eRows k.rows), .d (.lst ((whoS k.rows m).map eO)), a11, a12, a13] [13]) o1 = .ok (((leftOf (kindsL doors[door] m) person m done).filter fun kd => !k.opens.contains kd).map .int) o1 := by
        rw [lc_l D.int (leftOf (kindsL doors[door] m) person m done) (by omega) (fun kd => !k.opens.contains kd) id D.int]
        · simp only [List.map_id]
        · intro kd _
          refine ⟨_, rfl, ?_, fun _ => rfl⟩
          simp [wipeE, notIn_tints]
      have t3 := eq_nilO o1 ((whoS k.rows m).filter fun w => !(w == some (person : Int)))
      rw [all_sure wne person, es] at t3
      cases hs : isSure person m k with
      | true =>
        have lf := lf true hs
        rw [if_pos rfl] at lf
        rw [hs] at t3
        simp [t1, t3, t2, lf]
      | false =>
        have lf := lf false hs
        rw [if_neg (by decide)] at lf
        rw [hs] at t3
        simp [t1, t3, lf]
    refine ⟨[.d (eCase persons keys doors), .d (.int person), .d (.int door), .d (.int m), .d (.lst ((kindsL doors[door] m).map .int)), .d (.lst ((leftOf (kindsL doors[door] m) person m done).map .int)), .d (.str (if wordOf (kindsL doors[door] m) persons person m done = true then "maybe" else "no")), .d (eTs k.opens), .d (.bl k.plain), .d (eRows k.rows), a10, a11, a12, a13], by simp [eKey], ?_⟩
    rw [ev_Seq, W_then, e1, W_nx, ev_Seq, W_then, e2, W_nx]
    exact fin a10 a11 a12 a13
  · rintro ρ o1 ⟨rfl, done, hdone, a7, a8, a9, a10, a11, a12, a13, rfl⟩
    rw [List.append_nil] at hdone
    subst hdone
    have e1 : (leftOf (kindsL doors[door] m) person m done).isEmpty = sureA ⟨persons, doors, done⟩ person (kindsOf doors[door] m) m := by
      rw [Bool.eq_iff_iff, List.isEmpty_iff, sureA_iff]
      unfold leftOf
      rw [List.filter_eq_nil_iff]
      constructor
      · intro h kd hkd
        have := h kd (mem_kindsL.mpr hkd)
        simp at this
        obtain ⟨k, hk, h1, h2⟩ := this
        obtain ⟨i, hi⟩ := List.mem_iff_getElem?.mp hk
        exact ⟨i, k, hi, h1, h2⟩
      · intro h kd hkd
        obtain ⟨i, k, hi, h1, h2⟩ := h kd (mem_kindsL.mp hkd)
        simp
        exact ⟨k, List.mem_of_getElem? hi, h1, h2⟩
    have e2 : wordOf (kindsL doors[door] m) persons person m done = maybeA ⟨persons, doors, done⟩ person (kindsOf doors[door] m) m := by
      rw [Bool.eq_iff_iff, maybeA_iff]
      unfold wordOf
      rw [List.any_eq_true]
      constructor
      · rintro ⟨k, hk, h⟩
        rw [Bool.and_eq_true] at h
        obtain ⟨i, hi⟩ := List.mem_iff_getElem?.mp hk
        refine ⟨i, k, hi, ?_, h.1⟩
        have h2 := h.2
        simp at h2
        obtain ⟨kd, h3, h4⟩ := h2
        exact ⟨kd, h4, mem_kindsL.mp h3⟩
      · rintro ⟨i, k, hi, ⟨kd, h1, h2⟩, h3⟩
        refine ⟨k, List.mem_of_getElem? hi, ?_⟩
        rw [Bool.and_eq_true]
        refine ⟨h3, ?_⟩
        simp
        exact ⟨kd, mem_kindsL.mpr h2, h1⟩
    have t := eq_nil o1 (leftOf (kindsL doors[door] m) person m done)
    rw [e1] at t
    unfold ans
    rw [e2]
    cases q : sureA ⟨persons, doors, done⟩ person (kindsOf doors[door] m) m <;> rw [q] at t <;> simp [t]
end KR
set_option Elab.async false
set_option linter.all false
set_option maxRecDepth 100000
set_option maxHeartbeats 4000000
namespace KR
open PySem L2
/-! ### openers of one's own, first -/
theorem openers2_eq {o : Om} {b : Nat} {B : Bk} (h : BkAt o b B) (hB : Ok B) (d : Nat) (rs : List Row) (hk : B.doors[d]? = some rs) (m : Int) (h0 : 0 ≤ m ∧ m ≤ 999) :
    phi_openers_v2 [.obj b, .int d, .int m] o = .ok (.tup [.obj o.length, .obj (o.length + 1)]) (o ++ [.ml ((whoCan B (kindsOf rs m) m "surely").map eN), .ml ((whoCan B (kindsOf rs m) m "maybe").map eN)]) := by
  have hd : d < B.doors.length := (List.getElem?_eq_some_iff.mp hk).1
  have hm := hB.many
  have hm1 : (-100000 : Int) ≤ B.many := by omega
  have hm2 : (B.many : Int) ≤ 100000 := by omega
  have hx := h.same (app_same o [.ml ((whoCan B (kindsOf rs m) m "surely").map eN)]) fun _ _ z => z
  refine def_ok ?_
  unfold den_openers_v2
  simp [h.fv, need_door_eq h d hd, need_moment_eq m o h0, hm1, hm2]
  rw [lc_r B.many (by omega) (fun _ => true) (fun p => ans B p (kindsOf rs m) m) D.str]
  · simp [h.fv, hm1, hm2]
    rw [lc_r B.many (by omega) (fun p => ans B p (kindsOf rs m) m == "surely") id eN]
    · simp only [V_ok, List.map_id]
      rw [show (List.range B.many).filter (fun p => ans B p (kindsOf rs m) m == "surely") = whoCan B (kindsOf rs m) m "surely" from rfl]
      simp [hx.fv, hm1, hm2]
      rw [lc_r B.many (by omega) (fun p => ans B p (kindsOf rs m) m == "maybe") id eN]
      · simp [whoCan]
      · intro p hp
        refine ⟨_, rfl, ?_, fun _ => rfl⟩
        simp [wipeE, atI_nat, List.getElem?_range hp, eq_strs _ (ans3 B p (kindsOf rs m) m) (.inr (.inl rfl))]
    · intro p hp
      refine ⟨_, rfl, ?_, fun _ => rfl⟩
      simp [wipeE, atI_nat, List.getElem?_range hp, eq_strs _ (ans3 B p (kindsOf rs m) m) (.inl rfl)]
  · intro p hp
    refine ⟨_, rfl, rfl, fun _ => ?_⟩
    simp [wipeE, answer_eq h hB d rs hk p m]
/-- the first moment of all at which it isn't "no" -/
def FirstIs (B : Bk) (person : Nat) (rs : List Row) (d : D) : Prop :=
  (d = .non ∧ ∀ m : Nat, m < 1000 → ans B person (kindsOf rs m) m = "no") ∨ ∃ m : Nat, m < 1000 ∧ d = .int m ∧ ans B person (kindsOf rs m) m ≠ "no" ∧ ∀ j : Nat, j < m → ans B person (kindsOf rs j) j = "no"
theorem first_uniq {B : Bk} {person : Nat} {rs : List Row} {d e : D} (h : FirstIs B person rs d) (g : FirstIs B person rs e) : d = e := by
  rcases h with ⟨rfl, h⟩ | ⟨m, hm, rfl, h1, h2⟩ <;> rcases g with ⟨rfl, g⟩ | ⟨n, hn, rfl, g1, g2⟩
  · rfl
  · exact (g1 (h n hn)).elim
  · exact (h1 (g m hm)).elim
  · have : m = n := by
      rcases Nat.lt_trichotomy m n with q | q | q
      · exact (h1 (g2 m q)).elim
      · exact q
      · exact (g1 (h2 n q)).elim
    rw [this]
theorem first_eq {o : Om} {b : Nat} {B : Bk} (h : BkAt o b B) (hB : Ok B) (d : Nat) (rs : List Row) (hk : B.doors[d]? = some rs) (person : Nat) (hp : person < B.many) : ∃ x, phi_first [.obj b, .int person, .int d] o = .ok x o ∧ FirstIs B person rs x := by
  have hd : d < B.doors.length := (List.getElem?_eq_some_iff.mp hk).1
  have key : V (fun x o1 => o1 = o ∧ FirstIs B person rs x) (fun _ _ => False) (phi_first [.obj b, .int person, .int d] o) := by
    refine def_V ?_
    unfold den_first
    simp [need_all_eq h person d hp hd 0 (by omega)]
    refine W_rng0 1000 (fun i ρ o1 => o1 = o ∧ (∀ j : Nat, j < i → ans B person (kindsOf rs j) j = "no") ∧ ∃ a, ρ = [.d (.obj b), .d (.int person), .d (.int d), a]) ⟨rfl, fun j hj => by omega, _, rfl⟩ ?_ ?_
    · rintro i ρ o1 hi ⟨rfl, hno, a, rfl⟩
      refine ⟨_, rfl, ?_⟩
      have e1 := answer_eq h hB d rs hk person (i : Int)
      have e2 := ne_strs o1 (ans3 B person (kindsOf rs i) i) (.inr (.inr rfl))
      simp [e1, e2]
      by_cases q : ans B person (kindsOf rs i) i = "no"
      · simp [q]
        intro j hj
        rcases Nat.lt_or_ge j i with z | z
        · exact hno j z
        · have : j = i := by omega
          rw [this]; exact q
      · simp [q]
        exact .inr ⟨i, hi, rfl, q, hno⟩
    · rintro ρ o1 ⟨rfl, hno, a, rfl⟩
      simp
      exact .inl ⟨rfl, hno⟩
  cases q : phi_first [.obj b, .int person, .int d] o with
  | ok x o1 => rw [q] at key; obtain ⟨rfl, hx⟩ := key; exact ⟨x, rfl, hx⟩
  | exc x o1 => rw [q] at key; exact key.elim
  | bad => rw [q] at key; exact key.elim
end KR
set_option Elab.async false
set_option linter.all false
set_option maxRecDepth 100000
set_option maxHeartbeats 4000000
namespace KR
open PySem L2
/-! ### what the laws of a story share -/
/-- what a story leaves -/
structure CaseS (persons : Nat) (keys : List Key) (doors : List (List Row)) : Prop where
  many : 1 ≤ persons ∧ persons ≤ 4
  dl : 1 ≤ doors.length ∧ doors.length ≤ 2
  kl : keys.length ≤ 6
  ks : ∀ k ∈ keys, SKey persons k
  ds : ∀ rs ∈ doors, SDoor rs
theorem SKey.ok8 {persons : Nat} {k : Key} (s : SKey persons k) : KeyOk persons 999 8 k := ⟨s.so, s.ok, s.ol, s.rl, s.fit, fun r h => by have := s.row r h; omega, s.who⟩
theorem SDoor.ok8 {rs : List Row} (s : SDoor rs) : DoorOk 999 8 rs := ⟨s.rl, s.fit, fun r h => by have := s.row r h; omega, fun r h => by obtain ⟨i, e, h⟩ := s.kd r h; exact ⟨i, e, h⟩⟩
theorem CaseS.w {persons : Nat} {keys : List Key} {doors : List (List Row)} (c : CaseS persons keys doors) : CaseW persons keys doors :=
  ⟨by have := c.many; omega, by have := c.dl; omega, c.kl, fun k h => (c.ks k h).ok8, fun rs h => (c.ds rs h).ok8⟩
theorem StAt.caseS {o : Om} {t : Str} {b persons hk hd : Nat} {ks : Ks} {ds : Ds} {B : Bk} (s : StAt o t b persons hk hd ks ds B) : CaseS persons (ks.map (·.1)) (ds.map (·.1)) :=
  ⟨s.pl, by simpa using s.dl, by simpa using s.case.kl, fun k h => by obtain ⟨x, hx, rfl⟩ := List.mem_map.mp h; exact s.case.sk x hx, fun k h => by obtain ⟨x, hx, rfl⟩ := List.mem_map.mp h; exact s.case.sd x hx⟩
theorem dice_begin (t : Str) (ns : List Int) (hn : ns.length ≤ 1000) : ∃ x, phi_l_dice [.scr ns] [.tb t] = .ok (.obj 1) [.tb t, x] ∧ Dch 1 [.tb t, x] := dice_h ns hn [.tb t]
/-- the story, and what is known behind it -/
theorem storyS_V {o : Om} {Q : D → Om → Prop} {X : Xc → Om → Prop} {most : Int} (tb : (o[0]? : Option MO) = some (.tb "_law_turn")) (dc : Dch 1 o) (hm : 0 < most ∧ most ≤ 1000)
    (k : ∀ o' persons dk dd keys doors, Dch 1 o' → 1 < o'.length → CaseIs o' (.tup [.int (persons : Nat), dk, dd]) persons keys doors → CaseS persons keys doors → Q (.tup [.int (persons : Nat), dk, dd]) o') : V Q X (phi_l_story [.obj 1, .int most] o) :=
  story_V tb dc hm fun o' b persons hk hd ks ds l s => k o' persons (.obj hk) (.obj hd) _ _ s.dc (by have := s.hk1; have := s.bk.lt; omega) s.caseIs s.caseS
theorem CaseIs.split {o : Om} {persons : Nat} {dk dd : D} {keys : List Key} {doors : List (List Row)} (h : CaseIs o (.tup [.int (persons : Nat), dk, dd]) persons keys doors) : ∃ ks rs, LstAt o dk ks ∧ Each (KeyAt o) ks keys ∧ LstAt o dd rs ∧ Each (RowsAt o) rs doors := by
  obtain ⟨dk', dd', ks, rs, e, h1, h2, h3, h4⟩ := h.ex
  cases e
  exact ⟨ks, rs, h1, h2, h3, h4⟩
theorem Dch.kept0 {o o' : Om} (h : Dch 1 o) (s : Same (fun _ => False) o o') : Dch 1 o' := h.same s id
/-! words -/
def wordAt (B : Bk) (d p : Nat) (m : Int) : Str := ans B p (kindsOf (B.doors.getD d []) m) m
theorem door_at {B : Bk} {d : Nat} (h : d < B.doors.length) : B.doors[d]? = some (B.doors.getD d []) := by
  rw [List.getD_eq_getElem?_getD, List.getElem?_eq_getElem h]; rfl
theorem could_at {o : Om} {b : Nat} {B : Bk} (h : BkAt o b B) (hB : Ok B) (d p : Nat) (hd : d < B.doors.length) (hp : p < B.many) (m : Int) (h0 : 0 ≤ m ∧ m ≤ 999) : phi_could [.obj b, .int p, .int d, .int m] o = .ok (.str (wordAt B d p m)) o :=
  could_eq h hB d _ (door_at hd) p hp m h0
def wordsD (B : Bk) (np nd : Nat) (m : Int) : D := .lst ((List.range nd).map fun d => .lst ((List.range np).map fun p => .str (wordAt B d p m)))
theorem words_eq {o : Om} {b : Nat} {B : Bk} {d : D} {persons : Nat} {keys : List Key} {doors : List (List Row)} (h : BkAt o b B) (hB : Ok B) (hc : CaseIs o d persons keys doors) (hp : persons ≤ B.many) (hd : doors.length ≤ B.doors.length) (m : Int) (h0 : 0 ≤ m ∧ m ≤ 999) :
    phi_l_words [.obj b, d, .int m] o = .ok (wordsD B persons doors.length m) o := by
  obtain ⟨dk, dd, ks, rs, rfl, h1, h2, h3, h4⟩ := hc.ex
  have m8 := hB.many
  have d4 := hB.doors
  have n1 : (-100000 : Int) ≤ doors.length := by omega
  have n2 : (doors.length : Int) ≤ 100000 := by omega
  have p1 : (-100000 : Int) ≤ persons := by omega
  have p2 : (persons : Int) ≤ 100000 := by omega
  have rl : rs.length = doors.length := h4.len
  refine def_ok ?_
  unfold den_l_words
  simp [h3.qv, rl, n1, n2]
  rw [lc_r doors.length (by omega) (fun _ => true) (fun i => i) (fun i : Nat => .lst ((List.range persons).map fun p => .str (wordAt B i p m)))]
  · simp [wordsD]
  · intro i hi
    refine ⟨_, rfl, rfl, fun _ => ?_⟩
    simp [wipeE, p1, p2]
    rw [lc_r persons (by omega) (fun _ => true) (fun p => p) (fun p : Nat => .str (wordAt B i p m))]
    · simp
    · intro p hp'
      refine ⟨_, rfl, rfl, fun _ => ?_⟩
      simp [wipeE, could_at h hB i p (by omega) (by omega) m h0]
/-! the first moment -/
def firstO (B : Bk) (d p : Nat) : Option Nat := (List.range 1000).find? fun m => !(wordAt B d p (m : Int) == "no")
theorem firstO_some {B : Bk} {d p m : Nat} : firstO B d p = some m ↔ m < 1000 ∧ wordAt B d p m ≠ "no" ∧ ∀ j : Nat, j < m → wordAt B d p j = "no" := by
  unfold firstO
  rw [List.find?_range_eq_some]
  simp
  constructor
  · rintro ⟨h1, h2, h3⟩; exact ⟨h2, h1, h3⟩
  · rintro ⟨h1, h2, h3⟩; exact ⟨h2, h1, h3⟩
theorem firstO_none {B : Bk} {d p : Nat} : firstO B d p = none ↔ ∀ j : Nat, j < 1000 → wordAt B d p j = "no" := by
  unfold firstO
  rw [List.find?_eq_none]
  simp
def iO (x : Option Nat) : Option Int := x.map fun n : Nat => (n : Int)
theorem first_at {o : Om} {b : Nat} {B : Bk} (h : BkAt o b B) (hB : Ok B) (d p : Nat) (hd : d < B.doors.length) (hp : p < B.many) : phi_first [.obj b, .int p, .int d] o = .ok (eO (iO (firstO B d p))) o := by
  obtain ⟨x, e, f⟩ := first_eq h hB d _ (door_at hd) p hp
  rw [e]
  congr 1
  rcases f with ⟨rfl, f⟩ | ⟨m, hm, rfl, f1, f2⟩
  · rw [firstO_none.mpr f]; rfl
  · rw [firstO_some.mpr ⟨hm, f1, f2⟩]; rfl
theorem eqv_pO (w v : Option Int) : PyData.eqv (pO w) (pO v) = (w == v) := by
  cases w <;> cases v <;> rfl
theorem eq_eOs (o : Om) (w v : Option Int) : opEq o (eO w) (eO v) = some (.bl (w == v)) := by
  rw [opEq_of (toPy_eO o 8 w) (toPy_eO o 8 v), eqv_pO]
theorem word3 (B : Bk) (d p : Nat) (m : Int) : wordAt B d p m = "surely" ∨ wordAt B d p m = "maybe" ∨ wordAt B d p m = "no" := ans3 _ _ _ _
/-! "no" by keys alone -/
theorem no_iff {B : Bk} {person : Nat} {kinds : List Int} {m : Int} (hne : ∃ x, x ∈ kinds) (hp : person < B.many) : ans B person kinds m = "no" ↔ maybeA B person kinds m = false := by
  rw [ans_no]
  constructor
  · exact fun h => h.2
  · intro h
    refine ⟨?_, h⟩
    cases q : sureA B person kinds m with
    | false => rfl
    | true =>
      obtain ⟨x, hx⟩ := hne
      obtain ⟨i, k, h1, h2, h3⟩ := sureA_iff.mp q x hx
      have : maybeA B person kinds m = true := maybeA_iff.mpr ⟨i, k, h1, ⟨x, h3, hx⟩, by
        unfold mayHold
        rw [List.contains_iff_mem.mpr (sure_every hp (isSure_iff.mp h2))]
        rfl⟩
      rw [h] at this; cases this
theorem CaseW.kinds_ne {persons : Nat} {keys : List Key} {doors : List (List Row)} (c : CaseW persons keys doors) {d : Nat} (hd : d < doors.length) {m : Int} (h : 0 ≤ m ∧ m ≤ 999) : ∃ x, x ∈ kindsOf (doors.getD d []) m := by
  have e : doors.getD d [] = doors[d] := by rw [List.getD_eq_getElem?_getD, List.getElem?_eq_getElem hd]; rfl
  rw [e]
  have dk := c.ds doors[d] (List.getElem_mem hd)
  exact KR.kinds_ne dk.fit (fun r hr => (dk.ok r hr).2.2) h.1 h.2
/-! texts -/
theorem strs_toPy (o : Om) (k : Nat) : ∀ xs : List Str, (∀ x ∈ xs, PyData.strOk x = true) → (xs.map D.str).mapM (toPy o (k + 1)) = some (xs.map PyData.str)
  | [], _ => rfl
  | a :: l, h => by rw [List.map_cons, List.mapM_cons, strs_toPy o k l (fun x hx => h x (List.mem_cons_of_mem _ hx)), toPy_str o k (h a List.mem_cons_self)]; rfl
theorem eq_nilS (o : Om) (xs : List Str) (h : ∀ x ∈ xs, PyData.strOk x = true) : opEq o (.lst (xs.map .str)) (.lst []) = some (.bl xs.isEmpty) := by
  have e : toPy o 9 (.lst (xs.map D.str)) = some (.list (xs.map PyData.str)) := by rw [toPy_lst, strs_toPy o 7 xs h]; rfl
  rw [opEq_of e (lst_nil o)]
  show some (D.bl (PyData.eqvAll (xs.map PyData.str) [])) = _
  rw [eqvAll_nil]
  cases xs <;> rfl
theorem eqv_bool (a b : Bool) : PyData.eqv (.bool a) (.bool b) = (a == b) := by cases a <;> cases b <;> rfl
theorem ne_bl (o : Om) (a b : Bool) : opNe o (.bl a) (.bl b) = some (.bl (!(a == b))) := by
  rw [opNe_of (show toPy o 9 (.bl a) = some (.bool a) from rfl) (show toPy o 9 (.bl b) = some (.bool b) from rfl), eqv_bool]
theorem eq_bl (o : Om) (a b : Bool) : opEq o (.bl a) (.bl b) = some (.bl (a == b)) := by
  rw [opEq_of (show toPy o 9 (.bl a) = some (.bool a) from rfl) (show toPy o 9 (.bl b) = some (.bool b) from rfl), eqv_bool]
theorem flat_strs (xs : List Str) : (xs.map D.str).all flatD = true := by
  rw [List.all_map]
  exact List.all_eq_true.mpr fun _ _ => rfl
theorem inD_strs (s : Str) : ∀ xs : List Str, inD (.str s) (xs.map .str) = xs.contains s
  | [] => rfl
  | a :: r => by
    rw [List.contains_cons, ← inD_strs s r]
    show ((a == s) || inD (.str s) (r.map .str)) = _
    rw [Bool.beq_comm]
theorem in_strs (o : Om) (s : Str) (xs : List Str) : opIn o (.str s) (.lst (xs.map .str)) = some (.bl (xs.contains s)) := by
  show (if flatD (.str s) = true ∧ (xs.map D.str).all flatD = true then some (D.bl (inD (.str s) (xs.map .str))) else none) = _
  rw [if_pos ⟨rfl, flat_strs xs⟩, inD_strs]
theorem notIn_strs (o : Om) (s : Str) (xs : List Str) : opNotIn o (.str s) (.lst (xs.map .str)) = some (.bl (!xs.contains s)) := by
  show (if flatD (.str s) = true ∧ (xs.map D.str).all flatD = true then some (D.bl (!inD (.str s) (xs.map .str))) else none) = _
  rw [if_pos ⟨rfl, flat_strs xs⟩, inD_strs]
theorem qv_words (o : Om) (B : Bk) (np nd : Nat) (m : Int) : qv o (wordsD B np nd m) = some ((List.range nd).map fun d => .lst ((List.range np).map fun p => .str (wordAt B d p m))) := rfl
theorem ix_words (o : Om) (B : Bk) {np nd d : Nat} (h : d < nd) (m : Int) : opIx o (wordsD B np nd m) (.int (d : Int)) = some (.lst ((List.range np).map fun p => .str (wordAt B d p m))) := by
  rw [op_ix, qv_words]
  simp [atI_nat, List.getElem?_range h]
theorem ix_words2 (o : Om) (B : Bk) {np d p : Nat} (h : p < np) (m : Int) : opIx o (.lst ((List.range np).map fun p => .str (wordAt B d p m))) (.int (p : Int)) = some (.str (wordAt B d p m)) := by
  rw [op_ix, qv_lst]
  simp [atI_nat, List.getElem?_range h]
/-! drawn moments -/
theorem moments_V {o : Om} {n most : Nat} {p : Pat} {ρ : Rho} {Q : List D → Om → Prop} {X : Xc → Om → Prop} {te : DE} (dc : Dch 1 o) (hn : n ≤ 1000) (hm : 0 < most ∧ most ≤ 1000) (hp : ∀ x, ∃ ρ1, p.f x ρ = some ρ1 ∧ ∀ o, te ρ1 o = phi_l_next [.obj 1, .int most] o)
    (k : ∀ (ms : List Nat) o', Dch 1 o' → Same (· = 1) o o' → ms.length = n → (∀ m ∈ ms, m < most) → Q (ms.map eN) o') : V Q X (loopD p dYes te (.rng 0 n) ρ o) := by
  refine V_crng n (by omega) (fun r acc o5 => Dch 1 o5 ∧ Same (· = 1) o o5 ∧ ∃ ms : List Nat, ms.length + r.length = n ∧ (∀ m ∈ ms, m < most) ∧ acc = ms.map eN) ⟨dc, Same.refl _ _, [], by simp, fun _ z => (nomatch z), rfl⟩ ?_ ?_
  · rintro x r acc o5 ⟨d5, s5, ms, hl, hms, rfl⟩
    obtain ⟨ρ1, e1, e2⟩ := hp (.int x)
    refine ⟨ρ1, e1, ?_⟩
    simp [e2]
    refine next_h d5 (by omega) (by omega) fun z o6 hz d6 s6 => ?_
    refine ⟨d6, s5.trans s6, ms ++ [z], by simp at hl ⊢; omega, fun m hm => ?_, by simp [eN]⟩
    rcases List.mem_append.mp hm with q | q
    · exact hms m q
    · rw [List.mem_singleton.mp q]; omega
  · rintro acc o5 ⟨d5, s5, ms, hl, hms, rfl⟩
    exact k ms o5 d5 s5 (by simpa using hl) hms
end KR
set_option Elab.async false
set_option linter.all false
set_option maxRecDepth 100000
set_option maxHeartbeats 4000000
namespace KR
open PySem L2
/-! ### things that are told alike are equal -/
theorem plainAll_mem : ∀ {ps : List PyData}, (∀ p ∈ ps, p.plain = true) → PyData.plainAll ps = true
  | [], _ => rfl
  | p :: ps, h => by
    show (p.plain && PyData.plainAll ps) = true
    rw [h p List.mem_cons_self, plainAll_mem fun q hq => h q (List.mem_cons_of_mem _ hq)]; rfl
theorem mapM_mem {α β : Type} {f : α → Option β} : ∀ {xs : List α} {ps : List β}, xs.mapM f = some ps → ∀ p ∈ ps, ∃ x ∈ xs, f x = some p
  | [], ps, h, p, hp => by simp at h; subst h; cases hp
  | x :: xs, ps, h, p, hp => by
    rw [List.mapM_cons] at h
    cases q : f x with
    | none => rw [q] at h; cases h
    | some y =>
      rw [q] at h
      cases q2 : xs.mapM f with
      | none => rw [q2] at h; cases h
      | some ys =>
        rw [q2] at h
        cases h
        rcases List.mem_cons.mp hp with z | z
        · subst z; exact ⟨x, List.mem_cons_self, q⟩
        · obtain ⟨x', h1, h2⟩ := mapM_mem q2 p z
          exact ⟨x', List.mem_cons_of_mem _ h1, h2⟩
theorem toPy_plain {o : Om} : ∀ {k : Nat} {d : D} {p : PyData}, toPy o k d = some p → p.plain = true
  | 0, d, p, h => by cases h
  | k + 1, d, p, h => by
    have all : ∀ (xs : List D) (ps : List PyData), xs.mapM (toPy o k) = some ps → PyData.plainAll ps = true := fun xs ps h => plainAll_mem fun p hp => by
      obtain ⟨x, _, e⟩ := mapM_mem h p hp
      exact toPy_plain e
    cases d with
    | non => cases h; rfl
    | bl b => cases h; rfl
    | int i => cases h; rfl
    | str s =>
      have h : (if PyData.strOk s = true then some (PyData.str s) else none) = some p := h
      split at h <;> cases h
      rfl
    | tup xs =>
      have h : (xs.mapM (toPy o k)).map PyData.tuple = some p := h
      cases q : xs.mapM (toPy o k) with
      | none => rw [q] at h; cases h
      | some ps => rw [q] at h; cases h; exact all xs ps q
    | lst xs =>
      have h : (xs.mapM (toPy o k)).map PyData.list = some p := h
      cases q : xs.mapM (toPy o k) with
      | none => rw [q] at h; cases h
      | some ps => rw [q] at h; cases h; exact all xs ps q
    | obj n =>
      have h : (match o[n]? with
        | some (.ml xs) => (xs.mapM (toPy o k)).map PyData.list
        | _ => none) = some p := h
      split at h
      · rename_i xs e
        cases q : xs.mapM (toPy o k) with
        | none => rw [q] at h; cases h
        | some ps => rw [q] at h; cases h; exact all xs ps q
      · cases h
    | _ => cases h
theorem eq_same {o : Om} {x y : D} {p : PyData} (h : toPy o 9 x = some p) (h2 : toPy o 9 y = some p) : opEq o x y = some (.bl true) := by
  rw [opEq_of h h2, SeqAt.eqv_refl_plain p (toPy_plain h)]
theorem ne_same {o : Om} {x y : D} {p : PyData} (h : toPy o 9 x = some p) (h2 : toPy o 9 y = some p) : opNe o x y = some (.bl false) := by
  rw [opNe_of h h2, SeqAt.eqv_refl_plain p (toPy_plain h)]; rfl
/-- data by value, no deeper than k -/
def okD : Nat → D → Bool
  | 0, _ => false
  | _ + 1, .non => true
  | _ + 1, .bl _ => true
  | _ + 1, .int _ => true
  | _ + 1, .str s => PyData.strOk s
  | k + 1, .lst xs => xs.all (okD k)
  | k + 1, .tup xs => xs.all (okD k)
  | _ + 1, _ => false
theorem okD_toPy (o : Om) : ∀ {k : Nat} {d : D}, okD k d = true → ∃ p, toPy o k d = some p
  | 0, _, h => by cases h
  | k + 1, d, h => by
    have all : ∀ xs : List D, xs.all (okD k) = true → ∃ ps, xs.mapM (toPy o k) = some ps := fun xs h => by
      obtain ⟨ps, e, _⟩ := mapM_all (f := toPy o k) (xs := xs) fun x hx => okD_toPy o (List.all_eq_true.mp h x hx)
      exact ⟨ps, e⟩
    cases d with
    | non => exact ⟨_, rfl⟩
    | bl b => exact ⟨_, rfl⟩
    | int i => exact ⟨_, rfl⟩
    | str s => exact ⟨.str s, if_pos h⟩
    | tup xs =>
      obtain ⟨ps, e⟩ := all xs h
      exact ⟨.tuple ps, by rw [toPy_tup, e]; rfl⟩
    | lst xs =>
      obtain ⟨ps, e⟩ := all xs h
      exact ⟨.list ps, by rw [toPy_lst, e]; rfl⟩
    | _ => cases h
theorem okD_mono : ∀ {k j : Nat} {d : D}, okD k d = true → k ≤ j → okD j d = true
  | 0, _, _, h, _ => by cases h
  | k + 1, 0, _, _, h => by omega
  | k + 1, j + 1, d, h, hj => by
    have all : ∀ xs : List D, xs.all (okD k) = true → xs.all (okD j) = true := fun xs h => List.all_eq_true.mpr fun x hx => okD_mono (List.all_eq_true.mp h x hx) (by omega)
    cases d with
    | tup xs => exact all xs h
    | lst xs => exact all xs h
    | _ => first | exact h | cases h
theorem ne_self {o : Om} {d : D} (h : okD 9 d = true) : opNe o d d = some (.bl false) := by
  obtain ⟨p, e⟩ := okD_toPy o h
  exact ne_same e e
theorem eq_self {o : Om} {d : D} (h : okD 9 d = true) : opEq o d d = some (.bl true) := by
  obtain ⟨p, e⟩ := okD_toPy o h
  exact eq_same e e
theorem okD_eO (k : Nat) (w : Option Int) : okD (k + 1) (eO w) = true := by cases w <;> rfl
theorem okD_ints (k : Nat) (ns : List Int) : okD (k + 2) (.lst (ns.map .int)) = true := List.all_eq_true.mpr fun x hx => by
  obtain ⟨n, _, rfl⟩ := List.mem_map.mp hx
  rfl
theorem okD_nats (k : Nat) (ns : List Nat) : okD (k + 2) (.lst (ns.map eN)) = true := List.all_eq_true.mpr fun x hx => by
  obtain ⟨n, _, rfl⟩ := List.mem_map.mp hx
  rfl
theorem okD_map {α : Type} (k : Nat) (f : α → D) (xs : List α) (h : ∀ x ∈ xs, okD k (f x) = true) : okD (k + 1) (.lst (xs.map f)) = true := List.all_eq_true.mpr fun y hy => by
  obtain ⟨x, hx, rfl⟩ := List.mem_map.mp hy
  exact h x hx
theorem okD_tup2 {k : Nat} {a b : D} (h1 : okD k a = true) (h2 : okD k b = true) : okD (k + 1) (.tup [a, b]) = true := by
  show ([a, b].all (okD k)) = true
  simp [h1, h2]
theorem okD_words (k : Nat) (B : Bk) (np nd : Nat) (m : Int) : okD (k + 3) (wordsD B np nd m) = true :=
  okD_map _ _ _ fun d _ => okD_map _ _ _ fun p _ => strOk3 _ (word3 B d p m)
theorem okD_row (k : Nat) (r : Row) : okD (k + 2) (eRow r) = true := by
  show ([eO r.w, .int r.e, .int r.l].all (okD (k + 1))) = true
  simp [okD_eO]
  exact ⟨rfl, rfl⟩
theorem RowsAt.py {o : Om} {d : D} {rs : List Row} (h : RowsAt o d rs) : toPy o 9 d = toPy o 9 (eRows rs) := by
  rcases h with rfl | ⟨h, _, rfl, e⟩
  · rfl
  · rw [toPy_obj e]; unfold eRows; rw [toPy_lst]
theorem ne_rows {o : Om} {d d' : D} {rs : List Row} (h : RowsAt o d rs) (h' : RowsAt o d' rs) : opNe o d d' = some (.bl false) := by
  obtain ⟨p, e⟩ := okD_toPy o (okD_map 8 eRow rs fun r _ => okD_row 6 r)
  exact ne_same (h.py.trans e) (h'.py.trans e)
end KR
set_option Elab.async false
set_option linter.all false
set_option maxRecDepth 100000
set_option maxHeartbeats 4000000
namespace KR
open PySem L2
/-! ### comprehensions that store nothing, over what is read -/
theorem lc_q {γ β : Type} {p : Pat} {tt : DB} {te : DE} {ρ : Rho} {o : Om} {d : D} (enc : γ → D) (xs : List γ) (hl : xs.length ≤ 100000) (hq : qv o d = some (xs.map enc)) (t : γ → Bool) (g : γ → β) (en2 : β → D)
    (hs : ∀ x, x ∈ xs → ∃ ρ1, p.f (enc x) ρ = some ρ1 ∧ tt ρ1 o = .ok (t x) o ∧ (t x = true → te ρ1 o = .ok (en2 (g x)) o)) : loopD p tt te (.seq d) ρ o = .ok (((xs.filter t).map g).map en2) o := by
  refine V_eq (V_seqI (xs.map enc) (by simpa using hl) (fun i acc o' => o' = o ∧ acc = (((xs.take i).filter t).map g).map en2) (fun i acc o' h => by rw [h.1]; exact hq) ⟨rfl, by simp⟩ ?_ ?_)
  · rintro i x acc o' hx ⟨rfl, rfl⟩
    rw [List.getElem?_map] at hx
    cases q : xs[i]? with
    | none => rw [q] at hx; cases hx
    | some y =>
      rw [q] at hx
      cases hx
      obtain ⟨ρ1, e1, e2, e3⟩ := hs y (List.mem_of_getElem? q)
      refine ⟨ρ1, e1, ?_⟩
      rw [e2, take_sn1 q]
      cases h : t y with
      | true =>
        simp [e3 h, h]
      | false => simp [h]
  · rintro acc o' ⟨rfl, rfl⟩
    simp
/-! ### drawn orders -/
theorem eraseIdx_perm {α : Type} : ∀ {l : List α} {i : Nat} {x : α}, l[i]? = some x → (x :: l.eraseIdx i).Perm l
  | [], i, x, h => by simp at h
  | a :: l, 0, x, h => by simp at h; subst h; simp
  | a :: l, i + 1, x, h => by
    have h : l[i]? = some x := by simpa using h
    show (x :: a :: l.eraseIdx i).Perm (a :: l)
    exact (List.Perm.swap a x _).trans ((eraseIdx_perm h).cons a)
theorem map_erase {α β : Type} (f : α → β) : ∀ (l : List α) (i : Nat), (l.map f).eraseIdx i = (l.eraseIdx i).map f
  | [], i => by simp
  | a :: l, 0 => rfl
  | a :: l, i + 1 => by
    show f a :: (l.map f).eraseIdx i = f a :: (l.eraseIdx i).map f
    rw [map_erase f l i]
theorem order_V {o : Om} {n : Nat} {Q : D → Om → Prop} {X : Xc → Om → Prop} (dc : Dch 1 o) (hn : n ≤ 500) (k : ∀ (π : List Nat) o', Dch 1 o' → Same (· = 1) o o' → π.Perm (List.range n) → Q (.lst (π.map eN)) o') : V Q X (phi_l_order [.obj 1, .int n] o) := by
  refine def_V ?_
  unfold den_l_order
  have ln : 1 < o.length := by obtain ⟨_, _, _, _, z, _⟩ := dc; exact lt_of_some z
  have e1 : opLRg o (.int n) = some (.lst ((List.range n).map eN)) := lrg o n (by omega)
  have n1 : (-100000 : Int) ≤ n := by omega
  have n3 : (n : Int) ≤ 1000 := by omega
  have n2 : (n : Int) ≤ 100000 := by omega
  have e2 : dLRgH (dVar 1) [.d (.obj 1), .d (.int n), .no, .no] o = .ok (.obj o.length) (o ++ [.ml ((List.range n).map eN)]) := by
    unfold dLRgH
    simp [n1, n2, n3, range_eN]
  simp [e2, n1, n2]
  refine V_crng n (by omega) (fun r acc o5 => Dch 1 o5 ∧ Same (· = 1) o (o5.take o.length) ∧ o.length < o5.length ∧ ∃ π left : List Nat, (π ++ left).Perm (List.range n) ∧ left.length = r.length ∧ o5[o.length]? = some (.ml (left.map eN)) ∧ acc = π.map eN) ?_ ?_ ?_
  · refine ⟨dc.same (Same.app (fun _ => False) _ _) id, ?_, by simp, [], List.range n, by simp, by simp, by simp, rfl⟩
    simp
    exact Same.refl _ _
  · rintro x r acc o5 ⟨d5, s5, l5, π, left, hp, hl, ho, rfl⟩
    refine ⟨_, rfl, ?_⟩
    have hv5 := hv_obj ho
    have qv5 := qv_obj ho
    simp at hl
    have ln2 : left.length ≤ n := by have := hp.length_eq; simp at this; omega
    simp [wipeE, hv5, qv5]
    refine next_h d5 (by omega) (by omega) fun z o6 hz d6 s6 => ?_
    have ho6 : o6[o.length]? = some (.ml (left.map eN)) := (s6.2 _ l5 (by omega)).trans ho
    have hv6 := hv_obj ho6
    have hz' : z < left.length := by omega
    have z1 : (z : Int) < 1000 := by omega
    have l6 : o5.length ≤ o6.length := s6.1
    simp [hv6, mPopAt, z1, hz']
    refine ⟨d6.same (Same.set o6 o.length _) (by omega), ?_, by omega, π ++ [left[z]], left.eraseIdx z, ?_, ?_, ?_, ?_⟩
    · refine ⟨by simp; omega, fun i hi ne => ?_⟩
      rw [List.getElem?_take_of_lt hi, List.getElem?_set_ne (by omega), s6.2 i (by omega) ne]
      have := s5.2 i hi ne
      rwa [List.getElem?_take_of_lt hi] at this
    · refine List.Perm.trans ?_ hp
      rw [List.append_assoc]
      exact List.Perm.append_left π (eraseIdx_perm (List.getElem?_eq_getElem hz'))
    · rw [List.length_eraseIdx_of_lt hz']; omega
    · rw [List.getElem?_set_self (by omega), map_erase]
    · simp [eN]
  · rintro acc o5 ⟨d5, s5, l5, π, left, hp, hl, ho, rfl⟩
    have e : left = [] := List.length_eq_zero_iff.mp (by simpa using hl)
    subst e
    rw [List.append_nil] at hp
    refine k π o5 d5 ⟨by omega, fun i hi ne => ?_⟩ hp
    have := s5.2 i hi ne
    rwa [List.getElem?_take_of_lt hi] at this
theorem perm_mem {n : Nat} {π : List Nat} (h : π.Perm (List.range n)) {x : Nat} : x ∈ π ↔ x < n := by rw [h.mem_iff, List.mem_range]
theorem perm_len {n : Nat} {π : List Nat} (h : π.Perm (List.range n)) : π.length = n := by have := h.length_eq; simpa using this
theorem perm_nd {n : Nat} {π : List Nat} (h : π.Perm (List.range n)) : π.Nodup := h.symm.nodup List.nodup_range
end KR
set_option Elab.async false
set_option linter.all false
set_option maxRecDepth 100000
set_option maxHeartbeats 4000000
namespace KR
open PySem L2
/-! ### k39: holders and openers -/
/-- the first moment ahead of n at which one could -/
def fB (B : Bk) (n p d : Nat) : Option Nat := (List.range n).find? fun t => !(wordAt B d p (t : Int) == "no")
theorem fB_succ (B : Bk) (n p d : Nat) : fB B (n + 1) p d = (fB B n p d).or (if wordAt B d p (n : Int) = "no" then none else some n) := by
  unfold fB
  rw [List.range_succ, List.find?_append]
  congr 1
  rw [List.find?_cons]
  by_cases h : wordAt B d p (n : Int) = "no"
  · rw [if_pos h, h]; rfl
  · rw [if_neg h]
    have : (!(wordAt B d p (n : Int) == "no")) = true := by simpa using h
    rw [this]
theorem getI_none {kvs : Kvs} {k : Int × Int} (h : getI kvs k = none) (v : Int) : putI kvs k v = kvs ++ [(k, v)] := by
  unfold putI
  have : (kvs.any fun kv => decide (kv.1 = k)) = false := by
    unfold getI at h
    rw [Option.map_eq_none_iff, List.find?_eq_none] at h
    rw [List.any_eq_false]
    exact h
  rw [this]; rfl
theorem getI_put {kvs : Kvs} {k : Int × Int} (h : getI kvs k = none) (v : Int) (j : Int × Int) : getI (putI kvs k v) j = if j = k then some v else getI kvs j := by
  rw [getI_none h]
  unfold getI
  rw [List.find?_append]
  by_cases e : j = k
  · subst e
    unfold getI at h
    rw [Option.map_eq_none_iff] at h
    rw [h, if_pos rfl, List.find?_cons, decide_eq_true rfl]; rfl
  · rw [if_neg e, List.find?_cons, decide_eq_false fun z => e z.symm]
    simp
structure Bg (B : Bk) (np nd : Nat) (kvs : Kvs) (t d p : Nat) : Prop where
  len : kvs.length ≤ 8 * t + 4 * d + p
  at_ : ∀ p' d', p' < np → d' < nd → getI kvs (((p' : Nat) : Int), ((d' : Nat) : Int)) = iO (fB B (t + if d' < d ∨ (d' = d ∧ p' < p) then 1 else 0) p' d')
section
variable {B : Bk} {np nd : Nat} {kvs : Kvs} {t d p : Nat}
theorem Bg.here (h : Bg B np nd kvs t d p) (hp : p < np) (hd : d < nd) : getI kvs ((p : Int), (d : Int)) = iO (fB B t p d) := by
  have := h.at_ p d hp hd
  rwa [if_neg (by omega)] at this
theorem Bg.skip (h : Bg B np nd kvs t d p) (hp : p < np) (hd : d < nd) (hw : wordAt B d p (t : Int) = "no" ∨ getI kvs ((p : Int), (d : Int)) ≠ none) : Bg B np nd kvs t d (p + 1) := by
  refine ⟨by have := h.len; omega, fun p' d' hp' hd' => ?_⟩
  by_cases e : p' = p ∧ d' = d
  · obtain ⟨rfl, rfl⟩ := e
    have z := h.here hp hd
    rw [z, if_pos (by omega), fB_succ]
    congr 1
    rcases hw with hw | hw
    · rw [if_pos hw]; simp
    · rw [z] at hw
      cases q : fB B t p' d' with
      | none => rw [q] at hw; exact (hw rfl).elim
      | some x => rfl
  · rw [h.at_ p' d' hp' hd']
    have : (d' < d ∨ d' = d ∧ p' < p) ↔ (d' < d ∨ d' = d ∧ p' < p + 1) := by omega
    simp only [this]
theorem Bg.put (h : Bg B np nd kvs t d p) (hp : p < np) (hd : d < nd) (hw : wordAt B d p (t : Int) ≠ "no") (hn : getI kvs ((p : Int), (d : Int)) = none) : Bg B np nd (putI kvs ((p : Int), (d : Int)) (t : Int)) t d (p + 1) := by
  refine ⟨by rw [getI_none hn]; have := h.len; simp; omega, fun p' d' hp' hd' => ?_⟩
  rw [getI_put hn]
  by_cases e : p' = p ∧ d' = d
  · obtain ⟨rfl, rfl⟩ := e
    have z := h.here hp hd
    rw [z] at hn
    rw [if_pos rfl, if_pos (by omega), fB_succ, if_neg hw]
    cases q : fB B t p' d' with
    | none => rfl
    | some x => rw [q] at hn; cases hn
  · have ne : ¬ ((((p' : Nat) : Int), ((d' : Nat) : Int)) = (((p : Nat) : Int), ((d : Nat) : Int))) := fun z => e (by
      have z1 := congrArg Prod.fst z
      have z2 := congrArg Prod.snd z
      simp at z1 z2
      omega)
    rw [if_neg ne, h.at_ p' d' hp' hd']
    have : (d' < d ∨ d' = d ∧ p' < p) ↔ (d' < d ∨ d' = d ∧ p' < p + 1) := by omega
    simp only [this]
theorem Bg.door (h : Bg B np nd kvs t d np) (hp : np ≤ 4) : Bg B np nd kvs t (d + 1) 0 := by
  refine ⟨by have := h.len; omega, fun p' d' hp' hd' => ?_⟩
  rw [h.at_ p' d' hp' hd']
  have : (d' < d ∨ d' = d ∧ p' < np) ↔ (d' < d + 1 ∨ d' = d + 1 ∧ p' < 0) := by omega
  simp only [this]
theorem Bg.moment (h : Bg B np nd kvs t nd 0) (hd : nd ≤ 2) : Bg B np nd kvs (t + 1) 0 0 := by
  refine ⟨by have := h.len; omega, fun p' d' hp' hd' => ?_⟩
  rw [h.at_ p' d' hp' hd', if_pos (.inl hd'), if_neg (by omega)]
theorem Bg.begin : Bg B np nd [] 0 0 0 := ⟨by simp, fun p' d' _ _ => by rw [if_neg (by omega)]; rfl⟩
end
/-! the dict alone changes -/
theorem dv_obj {o : Om} {g : Nat} {kvs : Kvs} (h : o[g]? = some (MO.dt kvs)) : dv o (.obj g) = some (g, kvs) := by simp [dv, h]
def Sm (o o' : Om) : Prop := ∀ (i : Nat) (x : MO), o[i]? = some x → (∀ k, x ≠ MO.dt k) → o'[i]? = some x
section
variable {o o' : Om}
theorem Sm.refl (o : Om) : Sm o o := fun _ _ h _ => h
theorem Sm.set {g : Nat} {kvs : Kvs} (h : o[g]? = some (.dt kvs)) (k2 : Kvs) : Sm o (o.set g (.dt k2)) := fun i x e n => by
  have : g ≠ i := fun z => by subst z; rw [h] at e; cases e; exact n _ rfl
  rw [List.getElem?_set_ne this]; exact e
theorem LstAt.sm {d : D} {xs : List D} (h : LstAt o d xs) (s : Sm o o') : LstAt o' d xs := by
  rcases h with rfl | ⟨n, h1, rfl, e⟩
  · exact .inl rfl
  · exact .inr ⟨n, h1, rfl, s _ _ e fun k z => by cases z⟩
theorem BkAt.sm {b : Nat} {B : Bk} (h : BkAt o b B) (s : Sm o o') : BkAt o' b B :=
  ⟨s _ _ h.i0 (fun k z => nomatch z), s _ _ h.i1 (fun k z => nomatch z), s _ _ h.i2 (fun k z => nomatch z), s _ _ h.i3 (fun k z => nomatch z), s _ _ h.i4 (fun k z => nomatch z)⟩
theorem KeyAt.sm {d : D} {k : Key} (h : KeyAt o d k) (s : Sm o o') : KeyAt o' d k := by
  obtain ⟨r, e, h⟩ := h
  exact ⟨r, e, LstAt.sm h s⟩
theorem CaseIs.sm {d : D} {persons : Nat} {keys : List Key} {doors : List (List Row)} (h : CaseIs o d persons keys doors) (s : Sm o o') : CaseIs o' d persons keys doors := by
  obtain ⟨dk, dd, ks, rs, e, h1, h2, h3, h4⟩ := h.ex
  exact ⟨dk, dd, ks, rs, e, h1.sm s, h2.imp fun d x h => h.sm s, h3.sm s, h4.imp fun d x h => LstAt.sm h s⟩
theorem Dch.sm (h : Dch 1 o) (s : Sm o o') : Dch 1 o' := by
  obtain ⟨z1, z2, z3, z4, z5, z6⟩ := h
  exact ⟨z1, z2, z3, z4, s _ _ z5 (fun k z => by cases z), z6⟩
end
theorem eq_intL (o : Om) (a b : List Int) : opEq o (.lst (a.map .int)) (.lst (b.map .int)) = some (.bl (a == b)) := by
  rw [opEq_of (lst_ints o a) (lst_ints o b)]
  show some (D.bl (PyData.eqvAll (a.map .int) (b.map .int))) = _
  rw [eqvAll_ints]
theorem sure_one {P : Nat} {ws : List (Option Int)} {x : Int} (h : sureOf ws = some x) (hx : x < P) : (everyOf P ws).map eN = [D.int x] := by
  obtain ⟨h1, h2, h3⟩ := sureOf_iff.mp h
  have e : everyOf P ws = (List.range P).filter fun p => decide (p = x.toNat) := by
    unfold everyOf
    refine List.filter_congr fun p hp => ?_
    have c1 : ws.contains none = false := by
      rw [Bool.eq_false_iff]
      intro z
      have := h2 _ (List.contains_iff_mem.mp z)
      cases this
    rw [c1, Bool.or_false, Bool.eq_iff_iff, List.contains_iff_mem, decide_eq_true_eq]
    constructor
    · intro z
      have := h2 _ z
      injection this with this
      omega
    · rintro rfl
      have e2 : ((x.toNat : Nat) : Int) = x := by omega
      rw [e2]
      obtain ⟨w, hw⟩ := List.exists_mem_of_ne_nil ws h1
      rw [← h2 w hw]; exact hw
  have r : ∀ (n a : Nat), a < n → ((List.range n).filter fun p => decide (p = a)) = [a] := by
    intro n
    induction n with
    | zero => intro a h; omega
    | succ n ih =>
      intro a h
      rw [List.range_succ, List.filter_append]
      by_cases q : a = n
      · subst q
        have : ((List.range a).filter fun p => decide (p = a)) = [] := by
          rw [List.filter_eq_nil_iff]
          intro p hp
          have := List.mem_range.mp hp
          simp; omega
        rw [this]; simp
      · rw [ih a (by omega)]
        have : ([n].filter fun p => decide (p = a)) = [] := by
          rw [List.filter_eq_nil_iff]
          intro p hp
          rw [List.mem_singleton.mp hp]
          simp; omega
        rw [this, List.append_nil]
  rw [e, r P x.toNat (by omega)]
  show [eN x.toNat] = _
  unfold eN
  have e2 : ((x.toNat : Nat) : Int) = x := by omega
  rw [e2]
/-- what holders tells -/
def hD (P : Nat) (m : Int) (k : Key) : D := .tup [eO (sureOf (whoS k.rows m)), .lst ((everyOf P (whoS k.rows m)).map eN)]
def den_pB : DS := (dSeq (dAsg (d2 opIx (d2 opIx (dVar 9) (dVar 11)) (dVar 13)) (pNm 14)) (dSeq (dAsg (dLc (iR1 (dN opLen (dCons (dVar 4) dNil))) (pNm 19) (dT (d2 opEq (d2 opIx (d2 opIx (dVar 10) (dVar 19)) (dC (.int 0))) (dVar 13))) (dVar 19) [19]) (pNm 15)) (dSeq (dAsg (dLc (iSeq' (dVar 12)) (pNm 22) (dT (d2 opEq (dLc (iSeq' (dVar 15)) (pNm 19) (dT (d2 opIn (dVar 22) (d2 opIx (d2 opIx (dVar 4) (dVar 19)) (dC (.int 0))))) (dVar 19) [19]) (dN opLst dNil))) (dVar 22) [22]) (pNm 16)) (dSeq (dIfS (dOr (dT (d2 opNe (d2 opEq (dVar 14) (dC (.str "surely"))) (d2 opEq (dVar 16) (dN opLst dNil)))) (dAnd (dT (d2 opEq (dVar 12) (dN opLst (dCons (d1 opNeg (dC (.int 1))) dNil)))) (dT (d2 opNe (dVar 14) (dC (.str "no")))))) (dRet (dC (.bl false))) dSkip) (dIfS (dAnd (dT (d2 opNe (dVar 14) (dC (.str "no")))) (dT (d2 opDNotIn (dN opTup (dCons (dVar 13) (dCons (dVar 11) dNil))) (dVar 7)))) (dDPut (dVar 7) (dN opTup (dCons (dVar 13) (dCons (dVar 11) dNil))) (dVar 8)) dSkip)))))
def den_dB : DS := (dSeq (dAsg (dMeth "locks" 3 phi_Book_locks (dVar 6) (dCons (dVar 11) (dCons (dVar 8) dNil))) (pNm 12)) (dSeq (dFor (iR1 (dVar 3)) (pNm 13) den_pB) (dSeq (dAsg (dLc (iSeq' (dN opTup (dCons (dC (.str "surely")) (dCons (dC (.str "maybe")) dNil)))) (pNm 23) dYes (dLc (iR1 (dVar 3)) (pNm 24) (dT (d2 opEq (d2 opIx (d2 opIx (dVar 9) (dVar 11)) (dVar 24)) (dVar 23))) (dVar 24) [24]) [23]) (pNm 17)) (dIfS (dT (d2 opNe (dCall 3 phi_openers (dCons (dVar 6) (dCons (dVar 11) (dCons (dVar 8) dNil)))) (dN opTuple (dCons (dVar 17) dNil)))) (dRet (dC (.bl false))) dSkip))))
def den_mB : DS := (dSeq (dAsg (dCall 3 phi_l_words (dCons (dVar 6) (dCons (dVar 2) (dCons (dVar 8) dNil)))) (pNm 9)) (dSeq (dAsg (dLc (iR1 (dN opLen (dCons (dVar 4) dNil))) (pNm 19) dYes (dMeth "holders" 3 phi_Book_holders (dVar 6) (dCons (dVar 19) (dCons (dVar 8) dNil))) [19]) (pNm 10)) (dSeq (dIfS (dT (d2 opNe (dLc (iSeq' (dVar 10)) (pTp (psLen 2 (psCons (pNm 20) (psCons (pNm 21) psNil)))) (dAnd (dT (d2 opIsNot (dVar 20) (dC .non))) (dT (d2 opNe (dVar 21) (dN opLst (dCons (dVar 20) dNil))))) (dVar 20) [20, 21]) (dN opLst dNil))) (dRet (dC (.bl false))) dSkip) (dFor (iR1 (dN opLen (dCons (dVar 5) dNil))) (pNm 11) den_dB))))
section
variable {o : Om} {N : Rho → Om → Prop} {T : D → Om → Prop} {X : Xc → Om → Prop} {b P g t d p : Nat} {keys : List Key} {doors : List (List Row)} {dk dd cs : D} {ks dss : List D} {kvs : Kvs}
variable {a0 a1 a2 a5 a14 a15 a16 a17 a18 a19 a20 a21 a22 a23 a24 : EV}
theorem pB_W {K : List Int} {Rw : D} (hKK : K = kindsOf (doors.getD d []) (t : Int)) (hw : ∀ o : Om, (qv o Rw).bind (fun xs => xs[d]?) = some (.lst ((List.range P).map fun p => .str (wordAt ⟨P, doors, keys⟩ d p t)))) (hg : o[g]? = some (.dt kvs)) (hB : Bg ⟨P, doors, keys⟩ P doors.length kvs t d p) (hk0 : LstAt o dk ks) (ek : Each (KeyAt o) ks keys) (hc : CaseW P keys doors) (ht : t < 30) (hd : d < doors.length) (hp : p < P) (h2 : doors.length ≤ 2) (h4 : P ≤ 4)
    (k : ∀ o' kvs' b14 b15 b16, Sm o o' → o'[g]? = some (.dt kvs') → Bg ⟨P, doors, keys⟩ P doors.length kvs' t d (p + 1) →
      N [a0, a1, a2, .d (.int P), .d dk, a5, .d (.obj b), .d (.obj g), .d (.int t), .d Rw, .d (.lst (keys.map (hD P t))), .d (.int d), .d (.lst (K.map .int)), .d (.int p), b14, b15, b16, a17, a18, a19, a20, a21, a22, a23, a24] o') :
    W N T X (den_pB [a0, a1, a2, .d (.int P), .d dk, a5, .d (.obj b), .d (.obj g), .d (.int t), .d Rw, .d (.lst (keys.map (hD P t))), .d (.int d), .d (.lst (K.map .int)), .d (.int p), a14, a15, a16, a17, a18, a19, a20, a21, a22, a23, a24] o) := by
  unfold den_pB
  have kl := hc.kl
  have hkl : ks.length = keys.length := ek.len
  have n1 : (-100000 : Int) ≤ keys.length := by omega
  have n2 : (keys.length : Int) ≤ 100000 := by omega
  have lB := hB.len
  have w3 := word3 ⟨P, doors, keys⟩ d p t
  have hK : K.length ≤ 100000 := by
    have e : doors.getD d [] = doors[d] := by rw [List.getD_eq_getElem?_getD, List.getElem?_eq_getElem hd]; rfl
    have dr := hc.ok.drows doors[d] (List.getElem_mem hd)
    have := kindsOf_len dr.1 (t : Int)
    rw [hKK, e]; omega
  have ea : ans ⟨P, doors, keys⟩ p K (t : Int) = wordAt ⟨P, doors, keys⟩ d p t := by rw [hKK]; rfl
  have es : (wordAt ⟨P, doors, keys⟩ d p (t : Int) == "surely") = sureA ⟨P, doors, keys⟩ p K t := by
    rw [← ea]
    unfold ans
    clear hKK
    cases sureA ⟨P, doors, keys⟩ p K t with
    | true => rfl
    | false =>
      cases maybeA ⟨P, doors, keys⟩ p K t <;> decide +kernel
  have en : K = [-1] → wordAt ⟨P, doors, keys⟩ d p (t : Int) = "no" := fun h => by
    rw [← ea, h]
    unfold ans
    have neg : ∀ (i : Nat) (k : Key), keys[i]? = some k → ¬ (-1 : Int) ∈ k.opens := fun i k hk hm => by
      have := (hc.ks k (List.mem_of_getElem? hk)).rng _ hm
      omega
    have s0 : sureA ⟨P, doors, keys⟩ p [-1] t = false := by
      rw [Bool.eq_false_iff]
      intro z
      obtain ⟨i, k, q1, q2, q3⟩ := sureA_iff.mp z (-1) (by simp)
      exact neg i k q1 q3
    have m0 : maybeA ⟨P, doors, keys⟩ p [-1] t = false := by
      rw [Bool.eq_false_iff]
      intro z
      obtain ⟨i, k, q1, ⟨kd, q2, q3⟩, q4⟩ := maybeA_iff.mp z
      rw [List.mem_singleton.mp q3] at q2
      exact neg i k q1 q2
    rw [s0, m0]; rfl
  have eqw := eq_strs o w3 (.inl rfl : ("surely" : Str) = "surely" ∨ _)
  have new_ := ne_strs o w3 (.inr (.inr rfl) : ("no" : Str) = "surely" ∨ _)
  have eqk := eq_intL o K [-1]
  have hdn : opDNotIn o (.tup [.int (p : Int), .int (d : Int)]) (.obj g) = some (.bl (!(getI kvs ((p : Int), (d : Int))).isSome)) := by
    unfold opDNotIn
    have e1 : pairD (.tup [.int (p : Int), .int (d : Int)]) = some ((p : Int), (d : Int)) := rfl
    have e2 := dv_obj hg
    rw [e1, e2]
  have e1 : pairD (.tup [.int (p : Int), .int (d : Int)]) = some ((p : Int), (d : Int)) := rfl
  have e2 := dv_obj hg
  have hl : kvs.length < 1000 := by omega
  have hkq := hk0.qv
  have sk := hB.skip hp hd
  have pk := hB.put hp hd
  have atg : ∀ k2, (o.set g (.dt k2))[g]? = some (.dt k2) := fun k2 => List.getElem?_set_self (lt_of_some hg)
  generalize hW : wordAt ⟨P, doors, keys⟩ d p (t : Int) = wd at w3 es en eqw new_ sk pk ea
  simp [hw, atI_nat, hp, hW, hkq, hkl, n1, n2]
  rw [lc_r keys.length (by omega) (fun i => (keys[i]?).elim false (isSure p (t : Int))) id eN]
  · simp only [V_ok, List.map_id]
    rw [show (List.range keys.length).filter (fun i => (keys[i]?).elim false (isSure p (t : Int))) = mine ⟨P, doors, keys⟩ p t from rfl]
    have ml : (mine ⟨P, doors, keys⟩ p (t : Int)).length ≤ 100000 := by
      have := List.length_filter_le (fun i => (keys[i]?).elim false (isSure p (t : Int))) (List.range keys.length)
      unfold mine
      simp at this ⊢
      omega
    have mm : ∀ i ∈ mine ⟨P, doors, keys⟩ p (t : Int), i < keys.length := fun i hi => by
      unfold mine at hi
      exact List.mem_range.mp (List.mem_filter.mp hi).1
    have eS : sureA ⟨P, doors, keys⟩ p K t = (K.filter fun kd => ((mine ⟨P, doors, keys⟩ p t).filter fun i => (opensAt ⟨P, doors, keys⟩ i).contains kd).isEmpty).isEmpty := rfl
    rw [eS] at es
    generalize mine ⟨P, doors, keys⟩ p (t : Int) = mi at ml mm es
    try simp
    rw [lc_l D.int K hK (fun kd => (mi.filter fun i => (opensAt ⟨P, doors, keys⟩ i).contains kd).isEmpty) id D.int]
    · simp only [V_ok, List.map_id]
      have en2 := eq_nil o (K.filter fun kd => (mi.filter fun i => (opensAt ⟨P, doors, keys⟩ i).contains kd).isEmpty)
      rw [← es] at en2
      generalize (K.filter fun kd => (mi.filter fun i => (opensAt ⟨P, doors, keys⟩ i).contains kd).isEmpty) = LK at en2
      have nb := bl_ne o (wd == "surely") (wd == "surely")
      rw [beq_self_eq_true] at nb
      simp at en2 eqk nb
      have fin : W N T X ((dIfS (dAnd (dT (d2 opNe (dVar 14) (dC (.str "no")))) (dT (d2 opDNotIn (dN opTup (dCons (dVar 13) (dCons (dVar 11) dNil))) (dVar 7)))) (dDPut (dVar 7) (dN opTup (dCons (dVar 13) (dCons (dVar 11) dNil))) (dVar 8)) dSkip) [a0, a1, a2, .d (.int P), .d dk, a5, .d (.obj b), .d (.obj g), .d (.int t), .d Rw, .d (.lst (keys.map (hD P t))), .d (.int d), .d (.lst (K.map .int)), .d (.int p), .d (.str wd), .d (.lst (mi.map eN)), .d (.lst (LK.map .int)), a17, a18, a19, a20, a21, a22, a23, a24] o) := by
        by_cases q : wd = "no"
        · have q' : (wd == "no") = true := beq_iff_eq.mpr q
          rw [q'] at new_
          simp [new_]
          exact k o kvs _ _ _ (Sm.refl o) hg (sk (.inl q))
        · have q' : (wd == "no") = false := beq_eq_false_iff_ne.mpr q
          rw [q'] at new_
          cases hgi : getI kvs ((p : Int), (d : Int)) with
          | some v =>
            rw [hgi] at hdn
            simp at hdn
            simp [new_, hdn]
            exact k o kvs _ _ _ (Sm.refl o) hg (sk (.inr (by rw [hgi]; simp)))
          | none =>
            rw [hgi] at hdn
            simp at hdn
            simp [new_, hdn, dDPut, e1, e2, hl]
            exact k _ _ _ _ _ (Sm.set hg _) (atg _) (pk q hgi)
      by_cases q : K = [-1]
      · have qn := en q
        have q' : (wd == "no") = true := beq_iff_eq.mpr qn
        have new2 := new_
        rw [q'] at new2
        rw [show (K == [-1]) = true from beq_iff_eq.mpr q] at eqk
        simp [eqw, en2, nb, eqk, new2]
        exact k o kvs _ _ _ (Sm.refl o) hg (sk (.inl qn))
      · rw [show (K == [-1]) = false from beq_eq_false_iff_ne.mpr q] at eqk
        simp at fin
        simp [eqw, en2, nb, eqk]
        exact fin
    · intro kd hkd
      refine ⟨_, rfl, ?_, fun _ => rfl⟩
      simp [wipeE]
      rw [lc_l eN mi ml (fun i => (opensAt ⟨P, doors, keys⟩ i).contains kd) id eN]
      · have := eq_nilN o (mi.filter fun i => (opensAt ⟨P, doors, keys⟩ i).contains kd)
        simp only [V_ok, List.map_id]
        simp at this
        simp [this]
      · intro i hi
        have il := mm i hi
        obtain ⟨x, hx, r, rfl, hr⟩ := ek.get (List.getElem?_eq_getElem il)
        have eo : opensAt ⟨P, doors, keys⟩ i = keys[i].opens := by
          show (keys[i]?).elim [] (·.opens) = _
          rw [List.getElem?_eq_getElem (mm i hi)]; rfl
        refine ⟨_, rfl, ?_, fun _ => rfl⟩
        rw [eo]
        simp [wipeE, eN, hkq, atI_nat, hx, in_tints]
  · intro i hi
    refine ⟨_, rfl, ?_, fun _ => rfl⟩
    have e3 := eq_eO o (sureOf (whoS keys[i].rows (t : Int))) (p : Int)
    simp [wipeE, atI_nat, List.getElem?_eq_getElem hi, hD, e3, isSure]
theorem dB_W {Rw : D} (hw : ∀ o : Om, (qv o Rw).bind (fun xs => xs[d]?) = some (.lst ((List.range P).map fun p => .str (wordAt ⟨P, doors, keys⟩ d p t)))) (hb : BkAt o b ⟨P, doors, keys⟩) (hg : o[g]? = some (.dt kvs)) (hB : Bg ⟨P, doors, keys⟩ P doors.length kvs t d 0) (hk0 : LstAt o dk ks) (ek : Each (KeyAt o) ks keys) (hc : CaseW P keys doors) (ht : t < 30) (hd : d < doors.length) (h2 : doors.length ≤ 2) (h4 : P ≤ 4) {a12 a13 : EV}
    (k : ∀ o' kvs' b12 b13 b14 b15 b16 b17, Sm o o' → o'[g]? = some (.dt kvs') → Bg ⟨P, doors, keys⟩ P doors.length kvs' t (d + 1) 0 →
      N [a0, a1, a2, .d (.int P), .d dk, a5, .d (.obj b), .d (.obj g), .d (.int t), .d Rw, .d (.lst (keys.map (hD P t))), .d (.int d), b12, b13, b14, b15, b16, b17, a18, a19, a20, a21, a22, a23, a24] o') :
    W N T X (den_dB [a0, a1, a2, .d (.int P), .d dk, a5, .d (.obj b), .d (.obj g), .d (.int t), .d Rw, .d (.lst (keys.map (hD P t))), .d (.int d), a12, a13, a14, a15, a16, a17, a18, a19, a20, a21, a22, a23, a24] o) := by
  unfold den_dB
  have hd' : d < (⟨P, doors, keys⟩ : Bk).doors.length := hd
  have dat := door_at hd'
  have edd : (⟨P, doors, keys⟩ : Bk).doors.getD d [] = doors.getD d [] := rfl
  rw [edd] at dat
  have edr : doors.getD d [] = doors[d] := by rw [List.getD_eq_getElem?_getD, List.getElem?_eq_getElem hd]; rfl
  have dr := hc.ok.drows doors[d] (List.getElem_mem hd)
  rw [← edr] at dr
  have h0 : (0 : Int) ≤ t ∧ (t : Int) ≤ 999 := by omega
  have e1 := locks_eq hb d _ dat dr.1 dr.2 (t : Int) h0
  have opn : ∀ {o' : Om}, BkAt o' b ⟨P, doors, keys⟩ → _ := fun {o'} h => openers_eq h hc.ok d _ dat (t : Int) h0
  have p1 : (-100000 : Int) ≤ P := by omega
  have p2 : (P : Int) ≤ 100000 := by omega
  have wcan : ∀ w, whoCan ⟨P, doors, keys⟩ (kindsOf (doors.getD d []) (t : Int)) t w = (List.range P).filter fun p => wordAt ⟨P, doors, keys⟩ d p t == w := fun _ => rfl
  have pb := fun {o1 : Om} {kvs1 : Kvs} {p : Nat} {N1 : Rho → Om → Prop} {c14 c15 c16 c17 c18 c19 c20 c21 c22 c23 c24 : EV} => pB_W (o := o1) (N := N1) (T := T) (X := X) (b := b) (P := P) (g := g) (t := t) (d := d) (p := p) (keys := keys) (doors := doors) (dk := dk) (ks := ks) (kvs := kvs1) (a0 := a0) (a1 := a1) (a2 := a2) (a5 := a5) (a14 := c14) (a15 := c15) (a16 := c16) (a17 := c17) (a18 := c18) (a19 := c19) (a20 := c20) (a21 := c21) (a22 := c22) (a23 := c23) (a24 := c24) (K := kindsOf (doors.getD d []) (t : Int)) (Rw := Rw) rfl hw
  generalize hK : kindsOf (doors.getD d []) (t : Int) = K at e1 opn wcan pb
  simp [hb.fv, e1, p1, p2]
  refine W_rng0 P (fun p ρ o1 => ∃ kvs1, Sm o o1 ∧ o1[g]? = some (.dt kvs1) ∧ Bg ⟨P, doors, keys⟩ P doors.length kvs1 t d p ∧ ∃ b13 b14 b15 b16, ρ = [a0, a1, a2, .d (.int P), .d dk, a5, .d (.obj b), .d (.obj g), .d (.int t), .d Rw, .d (.lst (keys.map (hD P t))), .d (.int d), .d (.lst (K.map .int)), b13, b14, b15, b16, a17, a18, a19, a20, a21, a22, a23, a24]) ⟨kvs, Sm.refl o, hg, hB, _, _, _, _, rfl⟩ ?_ ?_
  · rintro p ρ o1 hp ⟨kvs1, s1, g1, b1, b13, b14, b15, b16, rfl⟩
    refine ⟨_, rfl, ?_⟩
    exact pb g1 b1 (hk0.sm s1) (ek.imp fun d x h => h.sm s1) hc ht hd hp h2 h4 fun o2 kvs2 c14 c15 c16 s2 g2 b2 => ⟨kvs2, fun i x e n => s2 i x (s1 i x e n) n, g2, b2, _, _, _, _, rfl⟩
  · rintro ρ o1 ⟨kvs1, s1, g1, b1, b13, b14, b15, b16, rfl⟩
    have op := opn (hb.sm s1)
    rw [wcan, wcan] at op
    simp
    rw [show D.tup [.str "surely", .str "maybe"] = .tup ((["surely", "maybe"] : List Str).map D.str) from rfl]
    rw [lc_t D.str (["surely", "maybe"] : List Str) (by simp) (fun _ => true) (fun w => w) (fun w => D.lst (((List.range P).filter fun p => wordAt ⟨P, doors, keys⟩ d p t == w).map eN))]
    · have ot : ∀ xs, opTuple o1 [.lst xs] = some (.tup xs) := fun _ => rfl
      have nn := ne_self (o := o1) (d := .tup [.lst (((List.range P).filter fun p => wordAt ⟨P, doors, keys⟩ d p t == "surely").map eN), .lst (((List.range P).filter fun p => wordAt ⟨P, doors, keys⟩ d p t == "maybe").map eN)]) (okD_tup2 (okD_nats 6 _) (okD_nats 6 _))
      simp [op, ot, nn]
      exact k o1 kvs1 _ _ _ _ _ _ s1 g1 (b1.door h4)
    · intro w hw2
      have hw3 : w = "surely" ∨ w = "maybe" ∨ w = "no" := by
        have : w = "surely" ∨ w = "maybe" := by simpa using hw2
        exact this.elim .inl fun z => .inr (.inl z)
      refine ⟨_, rfl, rfl, fun _ => ?_⟩
      simp [wipeE, p1, p2]
      rw [lc_r P (by omega) (fun p => wordAt ⟨P, doors, keys⟩ d p t == w) id eN]
      · simp
      · intro p hp
        refine ⟨_, rfl, ?_, fun _ => rfl⟩
        have e := eq_strs o1 (word3 ⟨P, doors, keys⟩ d p t) hw3
        simp [wipeE, atI_nat, hw, hp, e]
theorem mB_W {a9 a10 a11 a12 a13 : EV} (hb : BkAt o b ⟨P, doors, keys⟩) (hg : o[g]? = some (.dt kvs)) (hB : Bg ⟨P, doors, keys⟩ P doors.length kvs t 0 0) (hcs : CaseIs o (.tup [.int P, dk, dd]) P keys doors) (hc : CaseW P keys doors) (ht : t < 30) (h2 : doors.length ≤ 2) (h4 : P ≤ 4)
    (k : ∀ o' kvs' b9 b10 b11 b12 b13 b14 b15 b16 b17, Sm o o' → o'[g]? = some (.dt kvs') → Bg ⟨P, doors, keys⟩ P doors.length kvs' (t + 1) 0 0 →
      N [a0, a1, .d (.tup [.int P, dk, dd]), .d (.int P), .d dk, .d dd, .d (.obj b), .d (.obj g), .d (.int t), b9, b10, b11, b12, b13, b14, b15, b16, b17, a18, a19, a20, a21, a22, a23, a24] o') :
    W N T X (den_mB [a0, a1, .d (.tup [.int P, dk, dd]), .d (.int P), .d dk, .d dd, .d (.obj b), .d (.obj g), .d (.int t), a9, a10, a11, a12, a13, a14, a15, a16, a17, a18, a19, a20, a21, a22, a23, a24] o) := by
  unfold den_mB
  obtain ⟨ks, dss, hk0, ek, hd0, ed⟩ := hcs.split
  have h0 : (0 : Int) ≤ t ∧ (t : Int) ≤ 999 := by omega
  have we := words_eq hb hc.ok hcs (Nat.le_refl _) (Nat.le_refl _) (t : Int) h0
  have kl := hc.kl
  have dl := hc.dl
  have hkl : ks.length = keys.length := ek.len
  have hdl : dss.length = doors.length := ed.len
  have n1 : (-100000 : Int) ≤ keys.length := by omega
  have n2 : (keys.length : Int) ≤ 100000 := by omega
  have n3 : (-100000 : Int) ≤ doors.length := by omega
  have n4 : (doors.length : Int) ≤ 100000 := by omega
  have hw : ∀ (d : Nat), d < doors.length → ∀ o : Om, (qv o (wordsD ⟨P, doors, keys⟩ P doors.length t)).bind (fun xs => xs[d]?) = some (.lst ((List.range P).map fun p => .str (wordAt ⟨P, doors, keys⟩ d p t))) := fun d hd o => by
    show ((List.range doors.length).map _)[d]? = _
    rw [List.getElem?_map, List.getElem?_range hd]; rfl
  generalize wordsD ⟨P, doors, keys⟩ P doors.length t = Rw at we hw
  simp [we, hk0.qv, hkl, n1, n2]
  rw [lc_r keys.length (by omega) (fun _ => true) (fun i => i) (fun i => (keys[i]?).elim .non (hD P t))]
  · have eh : ((((List.range keys.length).filter fun _ => true).map fun i => i).map fun i => (keys[i]?).elim D.non (hD P t)) = keys.map (hD P t) := by
      rw [filt_true, List.map_id']
      apply List.ext_getElem?
      intro i
      rw [List.getElem?_map, List.getElem?_map]
      by_cases hi : i < keys.length
      · rw [List.getElem?_range hi, List.getElem?_eq_getElem hi]
        show some ((keys[i]?).elim D.non (hD P t)) = _
        rw [List.getElem?_eq_getElem hi]; rfl
      · rw [List.getElem?_eq_none (by simp; omega), List.getElem?_eq_none (by omega)]; rfl
    rw [eh]
    simp
    rw [lc_l (hD P t) keys (by omega) (fun _ => false) (fun k => k) (fun _ => D.non)]
    · have ef : ((keys.filter fun _ => false).map fun k => k).map (fun _ : Key => D.non) = [] := by
        have : (keys.filter fun _ => false) = [] := List.filter_eq_nil_iff.mpr fun _ _ z => by cases z
        rw [this]; rfl
      rw [ef]
      have nn := ne_nil o []
      simp at nn
      simp [nn, hd0.qv, hdl, n3, n4]
      refine W_rng0 doors.length (fun d ρ o1 => ∃ kvs1, Sm o o1 ∧ o1[g]? = some (.dt kvs1) ∧ Bg ⟨P, doors, keys⟩ P doors.length kvs1 t d 0 ∧ ∃ b11 b12 b13 b14 b15 b16 b17, ρ = [a0, a1, .d (.tup [.int P, dk, dd]), .d (.int P), .d dk, .d dd, .d (.obj b), .d (.obj g), .d (.int t), .d Rw, .d (.lst (keys.map (hD P t))), b11, b12, b13, b14, b15, b16, b17, a18, a19, a20, a21, a22, a23, a24]) ⟨kvs, Sm.refl o, hg, hB, _, _, _, _, _, _, _, rfl⟩ ?_ ?_
      · rintro d ρ o1 hd ⟨kvs1, s1, g1, b1, b11, b12, b13, b14, b15, b16, b17, rfl⟩
        refine ⟨_, rfl, ?_⟩
        exact dB_W (hw d hd) (hb.sm s1) g1 b1 (hk0.sm s1) (ek.imp fun d x h => h.sm s1) hc ht hd h2 h4 fun o2 kvs2 c12 c13 c14 c15 c16 c17 s2 g2 b2 => ⟨kvs2, fun i x e n => s2 i x (s1 i x e n) n, g2, b2, _, _, _, _, _, _, _, rfl⟩
      · rintro ρ o1 ⟨kvs1, s1, g1, b1, b11, b12, b13, b14, b15, b16, b17, rfl⟩
        exact k o1 kvs1 _ _ _ _ _ _ _ _ _ s1 g1 (b1.moment h2)
    · intro key hkey
      have hko := hc.ks key hkey
      refine ⟨_, rfl, ?_, fun z => by cases z⟩
      cases q : sureOf (whoS key.rows (t : Int)) with
      | none => simp [hD, q, eO, wipeE, isN]
      | some x =>
        have hx : x < P := by
          obtain ⟨z1, z2, z3⟩ := sureOf_iff.mp q
          obtain ⟨w, hw1⟩ := List.exists_mem_of_ne_nil _ z1
          have hw2 := z2 w hw1
          rw [hw2] at hw1
          rcases whoS_mem hw1 with y | ⟨r, hr, e⟩
          · omega
          · exact (hko.who r hr x e).2
        have so := sure_one q hx
        have nn := ne_self (o := o) (d := .lst [.int x]) (okD_ints 7 [x])
        simp [hD, q, eO, wipeE, isN, so, nn]
  · intro i hi
    refine ⟨_, rfl, rfl, fun _ => ?_⟩
    have hkey := List.getElem?_eq_getElem hi
    have hko := hc.ks keys[i] (List.getElem_mem hi)
    have hm : (⟨P, doors, keys⟩ : Bk).many ≤ 8 := by show P ≤ 8; omega
    have hq : phi_Book_holders [.obj b, .int (i : Int), .int (t : Int)] o = .ok (hD P t keys[i]) o := holders_eq hb i keys[i] hkey hko.rl hm (t : Int) h0
    simp [wipeE, hb.fv, hq, hkey]
end
theorem den_law39_split : den_law_v16 = (dSeq (dAsg (dCall 1 phi_l_dice (dCons (dVar 0) dNil)) (pNm 1)) (dSeq (dAsg (dCall 2 phi_l_story (dCons (dVar 1) (dCons (dC (.int 36)) dNil))) (pNm 2)) (dSeq (dAsg (dVar 2) (pTp (psLen 3 (psCons (pNm 3) (psCons (pNm 4) (psCons (pNm 5) psNil)))))) (dSeq (dAsg (dN opTup (dCons (dCall 1 phi_l_written (dCons (dVar 2) dNil)) (dCons dDNew dNil))) (pTp (psLen 2 (psCons (pNm 6) (psCons (pNm 7) psNil))))) (dSeq (dFor (iR1 (dC (.int 30))) (pNm 8) den_mB) (dSeq (dAsg (dN opTup (dCons (dCall 2 phi_l_next (dCons (dVar 1) (dCons (dVar 3) dNil))) (dCons (dCall 2 phi_l_next (dCons (dVar 1) (dCons (dN opLen (dCons (dVar 5) dNil)) dNil))) dNil))) (pTp (psLen 2 (psCons (pNm 13) (psCons (pNm 11) psNil))))) (dSeq (dAsg (dCall 3 phi_first (dCons (dVar 6) (dCons (dVar 13) (dCons (dVar 11) dNil)))) (pNm 18)) (dSeq (dIfS (dT (d2 opDIn (dN opTup (dCons (dVar 13) (dCons (dVar 11) dNil))) (dVar 7))) (dRet (d2 opEq (dVar 18) (d2 opDGet (dVar 7) (dN opTup (dCons (dVar 13) (dCons (dVar 11) dNil)))))) dSkip) (dRet (dOrV (d2 opIs (dVar 18) (dC .non)) (d2 opGe (dVar 18) (dC (.int 30)))))))))))))  := rfl
theorem law39 (ns : List Int) (hn : ns.length ≤ 63) : V (fun d _ => d = .bl true) (fun _ _ => False) (phi_law_v16 [.scr ns] [.tb "_law_turn"]) := by
  obtain ⟨x0, hx0, d0⟩ := dice_begin "_law_turn" ns (by omega)
  refine def_V ?_
  rw [den_law39_split]
  simp [hx0]
  refine storyS_V rfl d0 (by omega) fun o1 P dk dd keys doors d1 l1 hc cs => ?_
  have cw := cs.w
  have pm := cs.many
  have pd := cs.dl
  simp
  refine written_V hc cw fun o2 hB2 s2 => ?_
  have K2 := Kept.none s2
  have hc2 := hc.kept K2
  have d2 := d1.kept0 s2
  try simp
  have hb1 : 1 < o1.length := l1
  generalize o1.length = b at hB2 hb1
  have s3 := Same.app (fun _ => False) o2 [MO.dt []]
  have hB3 := hB2.same s3 fun _ _ => id
  have hc3 := hc2.kept (Kept.none s3)
  have d3 := d2.kept0 s3
  have g3 : (o2 ++ [MO.dt []])[o2.length]? = some (.dt []) := at_app _ _ _
  generalize o2.length = g at g3
  generalize o2 ++ [MO.dt []] = o3 at hB3 hc3 d3 g3
  refine W_rng0 30 (fun t ρ o4 => ∃ kvs, Sm o3 o4 ∧ o4[g]? = some (.dt kvs) ∧ Bg ⟨P, doors, keys⟩ P doors.length kvs t 0 0 ∧ ∃ b8 b9 b10 b11 b12 b13 b14 b15 b16 b17 b18 b19 b20 b21 b22 b23 b24, ρ = [.d (.scr ns), .d (.obj 1), .d (.tup [.int P, dk, dd]), .d (.int P), .d dk, .d dd, .d (.obj b), .d (.obj g), b8, b9, b10, b11, b12, b13, b14, b15, b16, b17, b18, b19, b20, b21, b22, b23, b24]) ⟨[], Sm.refl o3, g3, Bg.begin, _, _, _, _, _, _, _, _, _, _, _, _, _, _, _, _, _, rfl⟩ ?_ ?_
  · rintro t ρ o4 ht ⟨kvs, s4, g4, bg4, b8, b9, b10, b11, b12, b13, b14, b15, b16, b17, b18, b19, b20, b21, b22, b23, b24, rfl⟩
    refine ⟨_, rfl, ?_⟩
    exact mB_W (hB3.sm s4) g4 bg4 (hc3.sm s4) cw ht (by omega) (by omega) fun o5 kvs5 c9 c10 c11 c12 c13 c14 c15 c16 c17 s5 g5 bg5 => ⟨kvs5, fun i x e n => s5 i x (s4 i x e n) n, g5, bg5, _, _, _, _, _, _, _, _, _, _, _, _, _, _, _, _, _, rfl⟩
  · rintro ρ o4 ⟨kvs, s4, g4, bg4, b8, b9, b10, b11, b12, b13, b14, b15, b16, b17, b18, b19, b20, b21, b22, b23, b24, rfl⟩
    have d4 := d3.sm s4
    have hB4 := hB3.sm s4
    have hc4 := hc3.sm s4
    have g1 : g ≠ 1 := fun z => by
      obtain ⟨_, _, _, _, z5, _⟩ := d4
      rw [z, z5] at g4
      cases g4
    simp
    refine next_h d4 (by omega) (by omega) fun p o5 hp d5 m5 => ?_
    have K5 := Kept.dice m5
    have hc5 := hc4.kept K5
    obtain ⟨ks, dss, hk0, ek, hd0, ed⟩ := hc5.split
    have hdl : dss.length = doors.length := ed.len
    simp [hd0.qv, hdl]
    refine next_h d5 (by omega) (by omega) fun d o6 hd d6 m6 => ?_
    have hp' : p < P := by omega
    have hd' : d < doors.length := by omega
    have hB6 : BkAt o6 b ⟨P, doors, keys⟩ := (hB4.kept hb1 K5).kept hb1 (Kept.dice m6)
    have g6 : o6[g]? = some (.dt kvs) := by
      have e5 := (m5.2 g (lt_of_some g4) g1).trans g4
      exact (m6.2 g (lt_of_some e5) g1).trans e5
    have fi := first_at hB6 cw.ok d p hd' hp'
    have e1 : pairD (.tup [.int (p : Int), .int (d : Int)]) = some ((p : Int), (d : Int)) := rfl
    have e2 := dv_obj g6
    have at_ := bg4.at_ p d hp' hd'
    rw [if_neg (by omega), Nat.add_zero] at at_
    have hin : opDIn o6 (.tup [.int (p : Int), .int (d : Int)]) (.obj g) = some (.bl (getI kvs ((p : Int), (d : Int))).isSome) := by
      unfold opDIn
      rw [e1, e2]
    have hget : opDGet o6 (.obj g) (.tup [.int (p : Int), .int (d : Int)]) = (getI kvs ((p : Int), (d : Int))).map D.int := by
      unfold opDGet
      rw [e1, e2]
    rw [at_] at hin hget
    cases q : fB ⟨P, doors, keys⟩ 30 p d with
    | some m =>
      have fo : firstO ⟨P, doors, keys⟩ d p = some m := by
        unfold fB at q
        rw [List.find?_range_eq_some] at q
        obtain ⟨q1, q2, q3⟩ := q
        have q2 := List.mem_range.mp q2
        refine firstO_some.mpr ⟨by omega, by simpa using q1, fun j hj => ?_⟩
        simpa using q3 j hj
      rw [q] at hin hget
      rw [fo] at fi
      simp [iO] at hin hget fi
      have ee := eq_eO o6 (some (m : Int)) (m : Int)
      rw [beq_self_eq_true] at ee
      simp [hB6.fv, fi, hin, hget, ee]
    | none =>
      rw [q] at hin hget
      simp [iO] at hin hget
      cases f : firstO ⟨P, doors, keys⟩ d p with
      | none =>
        rw [f] at fi
        simp [iO] at fi
        simp [fi, hin, eO, isN]
      | some m =>
        have hm : 30 ≤ m := by
          rcases Nat.lt_or_ge m 30 with z | z
          · obtain ⟨_, f2, _⟩ := firstO_some.mp f
            unfold fB at q
            rw [List.find?_eq_none] at q
            have := q m (List.mem_range.mpr z)
            simp at this
            exact (f2 this).elim
          · exact z
        have hm2 : (30 : Int) ≤ m := by omega
        rw [f] at fi
        simp [iO] at fi
        simp [fi, hin, eO, isN, hm2]
end KR
set_option Elab.async false
set_option linter.all false
set_option maxRecDepth 100000
set_option maxHeartbeats 0
namespace Hd
open PySem PySem.Spec PyProof.Rows L2
def d0 : He.DefD := ⟨("_law_dice", none), "_law_dice", "_law_dice", defArgs KR.s_l_dice, defBody KR.s_l_dice, defScope KR.s_l_dice, [], []⟩
def d1 : He.DefD := ⟨("_law_next", none), "_law_next", "_law_next", defArgs KR.s_l_next, defBody KR.s_l_next, defScope KR.s_l_next, [], []⟩
def d2 : He.DefD := ⟨("Book", some "__init__"), "__init__", "Book.__init__", defArgs KR.s_Book_init, defBody KR.s_Book_init, defScope KR.s_Book_init, [], []⟩
def d3 : He.DefD := ⟨("Book", some "cut"), "cut", "Book.cut", defArgs KR.s_Book_cut, defBody KR.s_Book_cut, defScope KR.s_Book_cut, [], []⟩
def d4 : He.DefD := ⟨("_law_window", none), "_law_window", "_law_window", defArgs KR.s_l_window, defBody KR.s_l_window, defScope KR.s_l_window, [], []⟩
def d5 : He.DefD := ⟨("_law_told", none), "_law_told", "_law_told", defArgs KR.s_l_told, defBody KR.s_l_told, defScope KR.s_l_told, [], []⟩
def d6 : He.DefD := ⟨("Book", some "need_key"), "need_key", "Book.need_key", defArgs KR.s_Book_need_key, defBody KR.s_Book_need_key, defScope KR.s_Book_need_key, [], []⟩
def d7 : He.DefD := ⟨("need_place", none), "need_place", "need_place", defArgs KR.s_need_place, defBody KR.s_need_place, defScope KR.s_need_place, [], []⟩
def d8 : He.DefD := ⟨("Book", some "need_person"), "need_person", "Book.need_person", defArgs KR.s_Book_need_person, defBody KR.s_Book_need_person, defScope KR.s_Book_need_person, [], []⟩
def d9 : He.DefD := ⟨("earliest", none), "earliest", "earliest", defArgs KR.s_earliest, defBody KR.s_earliest, defScope KR.s_earliest, [], []⟩
def d10 : He.DefD := ⟨("first_bad", none), "first_bad", "first_bad", defArgs KR.s_first_bad, defBody KR.s_first_bad, defScope KR.s_first_bad, [], []⟩
def d11 : He.DefD := ⟨("with_row", none), "with_row", "with_row", defArgs KR.s_with_row, defBody KR.s_with_row, defScope KR.s_with_row, [], []⟩
def d12 : He.DefD := ⟨("Book", some "hand"), "hand", "Book.hand", defArgs KR.s_Book_hand, defBody KR.s_Book_hand, defScope KR.s_Book_hand, [], []⟩
def d13 : He.DefD := ⟨("Book", some "need_door"), "need_door", "Book.need_door", defArgs KR.s_Book_need_door, defBody KR.s_Book_need_door, defScope KR.s_Book_need_door, [], []⟩
def d14 : He.DefD := ⟨("Book", some "fit"), "fit", "Book.fit", defArgs KR.s_Book_fit, defBody KR.s_Book_fit, defScope KR.s_Book_fit, [], []⟩
def d15 : He.DefD := ⟨("_law_fits", none), "_law_fits", "_law_fits", defArgs KR.s_l_fits, defBody KR.s_l_fits, defScope KR.s_l_fits, [], []⟩
def d16 : He.DefD := ⟨("_law_turn", none), "_law_turn", "_law_turn", defArgs KR.s_l_turn, defBody KR.s_l_turn, defScope KR.s_l_turn, [], []⟩
def d17 : He.DefD := ⟨("_law_story", none), "_law_story", "_law_story", defArgs KR.s_l_story, defBody KR.s_l_story, defScope KR.s_l_story, [], []⟩
def d18 : He.DefD := ⟨("_law_written", none), "_law_written", "_law_written", defArgs KR.s_l_written, defBody KR.s_l_written, defScope KR.s_l_written, [], []⟩
def d19 : He.DefD := ⟨("need_moment", none), "need_moment", "need_moment", defArgs KR.s_need_moment, defBody KR.s_need_moment, defScope KR.s_need_moment, [], []⟩
def d20 : He.DefD := ⟨("need_all", none), "need_all", "need_all", defArgs KR.s_need_all, defBody KR.s_need_all, defScope KR.s_need_all, [], []⟩
def d21 : He.DefD := ⟨("latest", none), "latest", "latest", defArgs KR.s_latest, defBody KR.s_latest, defScope KR.s_latest, [], []⟩
def d22 : He.DefD := ⟨("stretches", none), "stretches", "stretches", defArgs KR.s_stretches, defBody KR.s_stretches, defScope KR.s_stretches, [], []⟩
def d23 : He.DefD := ⟨("possible", none), "possible", "possible", defArgs KR.s_possible, defBody KR.s_possible, defScope KR.s_possible, [], []⟩
def d24 : He.DefD := ⟨("Book", some "kinds"), "kinds", "Book.kinds", defArgs KR.s_Book_kinds, defBody KR.s_Book_kinds, defScope KR.s_Book_kinds, [], []⟩
def d25 : He.DefD := ⟨("Book", some "who"), "who", "Book.who", defArgs KR.s_Book_who, defBody KR.s_Book_who, defScope KR.s_Book_who, [], []⟩
def d26 : He.DefD := ⟨("copied_from", none), "copied_from", "copied_from", defArgs KR.s_copied_from, defBody KR.s_copied_from, defScope KR.s_copied_from, [], []⟩
def d27 : He.DefD := ⟨("may_hold", none), "may_hold", "may_hold", defArgs KR.s_may_hold, defBody KR.s_may_hold, defScope KR.s_may_hold, [], []⟩
def d28 : He.DefD := ⟨("answer", none), "answer", "answer", defArgs KR.s_answer, defBody KR.s_answer, defScope KR.s_answer, [], []⟩
def d29 : He.DefD := ⟨("could", none), "could", "could", defArgs KR.s_could, defBody KR.s_could, defScope KR.s_could, [], []⟩
def d30 : He.DefD := ⟨("_law_words", none), "_law_words", "_law_words", defArgs KR.s_l_words, defBody KR.s_l_words, defScope KR.s_l_words, [], []⟩
def d31 : He.DefD := ⟨("Book", some "holders"), "holders", "Book.holders", defArgs KR.s_Book_holders, defBody KR.s_Book_holders, defScope KR.s_Book_holders, [], []⟩
def d32 : He.DefD := ⟨("Book", some "locks"), "locks", "Book.locks", defArgs KR.s_Book_locks, defBody KR.s_Book_locks, defScope KR.s_Book_locks, [], []⟩
def d33 : He.DefD := ⟨("openers", none), "openers", "openers", defArgs KR.s_openers, defBody KR.s_openers, defScope KR.s_openers, [], []⟩
def d34 : He.DefD := ⟨("first", none), "first", "first", defArgs KR.s_first, defBody KR.s_first, defScope KR.s_first, [], []⟩
def d35 : He.DefD := ⟨("law", none), "law", "law", defArgs KR.s_law, defBody KR.s_law, defScope KR.s_law, [], []⟩
def d36 : He.DefD := ⟨("BadTimes", some "__init__"), "__init__", "BadTimes.__init__", defArgs KR.s_BadTimes_init, defBody KR.s_BadTimes_init, defScope KR.s_BadTimes_init, [], []⟩
def fn : List He.DefD := [d0, d1, d2, d3, d4, d5, d6, d7, d8, d9, d10, d11, d12, d13, d14, d15, d16, d17, d18, d19, d20, d21, d22, d23, d24, d25, d26, d27, d28, d29, d30, d31, d32, d33, d34, d35, d36]
def fa : List He.Fa := [.cls "Book", .free "ValueError", .free "int", .free "isinstance", .free "len", .free "list", .free "max", .free "min", .free "range", .free "reversed", .free "set", .free "sorted", .free "tuple", .free "zip", .exc "BadPlace", .noat "Book" "doors", .noat "Book" "many", .noat "Book" "opens", .noat "Book" "plain", .noat "Book" "rows", .int "LAST" 999, .int "MOST_DOORS" 4, .int "MOST_ENTRIES" 8, .int "MOST_KEYS" 6, .int "MOST_KIND" 9, .int "MOST_PERSONS" 8, .glo "BadBook", .glo "BadKey", .glo "BadPlace", .glo "BadTimes", .glo "KeyrollError", .glo "NoMoment", .glo "NoOne", .glo "_law_turn", .glo "_law_dice", .glo "_law_next", .glo "Book", .mkr "Book", .meth "Book" "cut", .glo "_law_window", .glo "_law_told", .meth "Book" "need_key", .glo "need_place", .meth "Book" "need_person", .glo "earliest", .glo "first_bad", .glo "with_row", .meth "Book" "hand", .meth "Book" "need_door", .meth "Book" "fit", .glo "_law_fits", .glo "_law_story", .glo "_law_written", .glo "need_moment", .glo "need_all", .glo "latest", .glo "stretches", .glo "possible", .meth "Book" "kinds", .meth "Book" "who", .glo "copied_from", .glo "may_hold", .glo "answer", .glo "could", .glo "_law_words", .meth "Book" "holders", .meth "Book" "locks", .glo "openers", .glo "first", .glo "law", .meth "BadTimes" "__init__"]
def names1 : List PySem.Str := ["_wall", "LAST", "earliest", "latest", "first_bad", "stretches", "possible", "KeyrollError", "BadBook", "BadKey", "NoOne", "BadPlace", "BadTimes", "NoMoment", "MOST_PERSONS", "MOST_DOORS", "MOST_KEYS", "MOST_KIND", "MOST_ENTRIES", "Book", "need_moment", "need_place", "with_row", "copied_from", "may_hold", "answer", "need_all", "could", "openers", "first"]
def names2 : List PySem.Str := ["_law_dice", "_law_next", "_law_window", "_law_fits", "_law_told", "_law_turn", "_law_story", "_law_written", "_law_words"]
def names : List PySem.Str := names1 ++ names2
abbrev R : PySem.W.OpenRow := PySem.W.OpenLaw.row PySem.Challenge.rw_keyroll_k39_whole_holders_and_openers
def tf : List He.Defn := [("_law_turn", none)]
def ex (K : PySem.W.Frag) : Bool := KR.exsB K && (KR.keiB K (He.ga K "KeyrollError") && (KR.oexB K (He.ga K "BadTimes")))
abbrev hk : PySem.W.Hook := KR.hookK 5 fa fn tf ex
def ob (s : PySem.W.SharedT) : He.AlD × Bool := KR.obsK 5 fa fn tf ex (HandSHeadRun.getT s)
theorem ob_eq (s : PySem.W.SharedT) : ob s = hk.obs s.abs := KR.obsK_eq (HandSHeadRun.getT_eq s)
theorem run (w : World) : HandSHeadRun.RunEq R (PySem.W.view R.prog [44]) hk ob 9000 names w := by
  intro os
  kernel_rfl
theorem ex_all {K : PySem.W.Frag} (e : ex K = true) : KR.exsB K = true ∧ KR.keiB K (He.ga K "KeyrollError") = true ∧ KR.oexB K (He.ga K "BadTimes") = true := by
  unfold ex at e
  rw [Bool.and_eq_true, Bool.and_eq_true] at e
  exact e
theorem txt {K : PySem.W.Frag} {h : Heap} {mg : Str → Option Value} (X : K.In h) (G : h.Ns mainGlobals mg) (c : He.SaysD fa fn K) (e : KR.exsB K = true ∧ KR.keiB K (He.ga K "KeyrollError") = true ∧ KR.oexB K (He.ga K "BadTimes") = true) : KR.Txt K mg (He.ga K "Book") where
  cl := He.cls_ok (c.fact 0 (f := .cls "Book") rfl)
  b_ValueError := He.free_ok X G (c.fact 1 (f := .free "ValueError") rfl)
  b_int := He.free_ok X G (c.fact 2 (f := .free "int") rfl)
  b_isinstance := He.free_ok X G (c.fact 3 (f := .free "isinstance") rfl)
  b_len := He.free_ok X G (c.fact 4 (f := .free "len") rfl)
  b_list := He.free_ok X G (c.fact 5 (f := .free "list") rfl)
  b_max := He.free_ok X G (c.fact 6 (f := .free "max") rfl)
  b_min := He.free_ok X G (c.fact 7 (f := .free "min") rfl)
  b_range := He.free_ok X G (c.fact 8 (f := .free "range") rfl)
  b_reversed := He.free_ok X G (c.fact 9 (f := .free "reversed") rfl)
  b_set := He.free_ok X G (c.fact 10 (f := .free "set") rfl)
  b_sorted := He.free_ok X G (c.fact 11 (f := .free "sorted") rfl)
  b_tuple := He.free_ok X G (c.fact 12 (f := .free "tuple") rfl)
  b_zip := He.free_ok X G (c.fact 13 (f := .free "zip") rfl)
  x_BadPlace := He.exc_ok (c.fact 14 (f := .exc "BadPlace") rfl)
  n_doors := He.noat_ok (c.fact 15 (f := .noat "Book" "doors") rfl)
  n_many := He.noat_ok (c.fact 16 (f := .noat "Book" "many") rfl)
  n_opens := He.noat_ok (c.fact 17 (f := .noat "Book" "opens") rfl)
  n_plain := He.noat_ok (c.fact 18 (f := .noat "Book" "plain") rfl)
  n_rows := He.noat_ok (c.fact 19 (f := .noat "Book" "rows") rfl)
  i_LAST := He.int_ok X G (c.fact 20 (f := .int "LAST" 999) rfl)
  i_MOST_DOORS := He.int_ok X G (c.fact 21 (f := .int "MOST_DOORS" 4) rfl)
  i_MOST_ENTRIES := He.int_ok X G (c.fact 22 (f := .int "MOST_ENTRIES" 8) rfl)
  i_MOST_KEYS := He.int_ok X G (c.fact 23 (f := .int "MOST_KEYS" 6) rfl)
  i_MOST_KIND := He.int_ok X G (c.fact 24 (f := .int "MOST_KIND" 9) rfl)
  i_MOST_PERSONS := He.int_ok X G (c.fact 25 (f := .int "MOST_PERSONS" 8) rfl)
  g_BadBook := He.glo_ok X G (c.fact 26 (f := .glo "BadBook") rfl)
  g_BadKey := He.glo_ok X G (c.fact 27 (f := .glo "BadKey") rfl)
  g_BadPlace := He.glo_ok X G (c.fact 28 (f := .glo "BadPlace") rfl)
  g_BadTimes := He.glo_ok X G (c.fact 29 (f := .glo "BadTimes") rfl)
  g_KeyrollError := He.glo_ok X G (c.fact 30 (f := .glo "KeyrollError") rfl)
  g_NoMoment := He.glo_ok X G (c.fact 31 (f := .glo "NoMoment") rfl)
  g_NoOne := He.glo_ok X G (c.fact 32 (f := .glo "NoOne") rfl)
  exs := KR.exsB_ok e.1
  kei := KR.keiB_ok e.2.1
  o_BadTimes := KR.oexB_ok e.2.2
  t_l_turn := He.glo_ok X G (c.fact 33 (f := .glo "_law_turn") rfl)
  f_l_dice := ⟨by obtain ⟨fd, F⟩ := c.def_ 0 (d := d0) rfl; exact ⟨_, fd, F, He.glo_ok X G (c.fact 34 (f := .glo "_law_dice") rfl)⟩⟩
  f_l_next := ⟨by obtain ⟨fd, F⟩ := c.def_ 1 (d := d1) rfl; exact ⟨_, fd, F, He.glo_ok X G (c.fact 35 (f := .glo "_law_next") rfl)⟩⟩
  f_Book_init := ⟨by obtain ⟨fd, F⟩ := c.def_ 2 (d := d2) rfl; exact ⟨_, fd, F, He.glo_ok X G (c.fact 36 (f := .glo "Book") rfl), He.mkr_ok (c.fact 37 (f := .mkr "Book") rfl)⟩⟩
  f_Book_cut := ⟨by obtain ⟨fd, F⟩ := c.def_ 3 (d := d3) rfl; exact ⟨_, fd, F, He.meth_ok (c.fact 38 (f := .meth "Book" "cut") rfl)⟩⟩
  f_l_window := ⟨by obtain ⟨fd, F⟩ := c.def_ 4 (d := d4) rfl; exact ⟨_, fd, F, He.glo_ok X G (c.fact 39 (f := .glo "_law_window") rfl)⟩⟩
  f_l_told := ⟨by obtain ⟨fd, F⟩ := c.def_ 5 (d := d5) rfl; exact ⟨_, fd, F, He.glo_ok X G (c.fact 40 (f := .glo "_law_told") rfl)⟩⟩
  f_Book_need_key := ⟨by obtain ⟨fd, F⟩ := c.def_ 6 (d := d6) rfl; exact ⟨_, fd, F, He.meth_ok (c.fact 41 (f := .meth "Book" "need_key") rfl)⟩⟩
  f_need_place := ⟨by obtain ⟨fd, F⟩ := c.def_ 7 (d := d7) rfl; exact ⟨_, fd, F, He.glo_ok X G (c.fact 42 (f := .glo "need_place") rfl)⟩⟩
  f_Book_need_person := ⟨by obtain ⟨fd, F⟩ := c.def_ 8 (d := d8) rfl; exact ⟨_, fd, F, He.meth_ok (c.fact 43 (f := .meth "Book" "need_person") rfl)⟩⟩
  f_earliest := ⟨by obtain ⟨fd, F⟩ := c.def_ 9 (d := d9) rfl; exact ⟨_, fd, F, He.glo_ok X G (c.fact 44 (f := .glo "earliest") rfl)⟩⟩
  f_first_bad := ⟨by obtain ⟨fd, F⟩ := c.def_ 10 (d := d10) rfl; exact ⟨_, fd, F, He.glo_ok X G (c.fact 45 (f := .glo "first_bad") rfl)⟩⟩
  f_with_row := ⟨by obtain ⟨fd, F⟩ := c.def_ 11 (d := d11) rfl; exact ⟨_, fd, F, He.glo_ok X G (c.fact 46 (f := .glo "with_row") rfl)⟩⟩
  f_Book_hand := ⟨by obtain ⟨fd, F⟩ := c.def_ 12 (d := d12) rfl; exact ⟨_, fd, F, He.meth_ok (c.fact 47 (f := .meth "Book" "hand") rfl)⟩⟩
  f_Book_need_door := ⟨by obtain ⟨fd, F⟩ := c.def_ 13 (d := d13) rfl; exact ⟨_, fd, F, He.meth_ok (c.fact 48 (f := .meth "Book" "need_door") rfl)⟩⟩
  f_Book_fit := ⟨by obtain ⟨fd, F⟩ := c.def_ 14 (d := d14) rfl; exact ⟨_, fd, F, He.meth_ok (c.fact 49 (f := .meth "Book" "fit") rfl)⟩⟩
  f_l_fits := ⟨by obtain ⟨fd, F⟩ := c.def_ 15 (d := d15) rfl; exact ⟨_, fd, F, He.glo_ok X G (c.fact 50 (f := .glo "_law_fits") rfl)⟩⟩
  f_l_turn := ⟨by obtain ⟨fd, F⟩ := c.def_ 16 (d := d16) rfl; exact ⟨_, fd, F, He.glo_ok X G (c.fact 33 (f := .glo "_law_turn") rfl)⟩⟩
  f_l_story := ⟨by obtain ⟨fd, F⟩ := c.def_ 17 (d := d17) rfl; exact ⟨_, fd, F, He.glo_ok X G (c.fact 51 (f := .glo "_law_story") rfl)⟩⟩
  f_l_written := ⟨by obtain ⟨fd, F⟩ := c.def_ 18 (d := d18) rfl; exact ⟨_, fd, F, He.glo_ok X G (c.fact 52 (f := .glo "_law_written") rfl)⟩⟩
  f_need_moment := ⟨by obtain ⟨fd, F⟩ := c.def_ 19 (d := d19) rfl; exact ⟨_, fd, F, He.glo_ok X G (c.fact 53 (f := .glo "need_moment") rfl)⟩⟩
  f_need_all := ⟨by obtain ⟨fd, F⟩ := c.def_ 20 (d := d20) rfl; exact ⟨_, fd, F, He.glo_ok X G (c.fact 54 (f := .glo "need_all") rfl)⟩⟩
  f_latest := ⟨by obtain ⟨fd, F⟩ := c.def_ 21 (d := d21) rfl; exact ⟨_, fd, F, He.glo_ok X G (c.fact 55 (f := .glo "latest") rfl)⟩⟩
  f_stretches := ⟨by obtain ⟨fd, F⟩ := c.def_ 22 (d := d22) rfl; exact ⟨_, fd, F, He.glo_ok X G (c.fact 56 (f := .glo "stretches") rfl)⟩⟩
  f_possible := ⟨by obtain ⟨fd, F⟩ := c.def_ 23 (d := d23) rfl; exact ⟨_, fd, F, He.glo_ok X G (c.fact 57 (f := .glo "possible") rfl)⟩⟩
  f_Book_kinds := ⟨by obtain ⟨fd, F⟩ := c.def_ 24 (d := d24) rfl; exact ⟨_, fd, F, He.meth_ok (c.fact 58 (f := .meth "Book" "kinds") rfl)⟩⟩
  f_Book_who := ⟨by obtain ⟨fd, F⟩ := c.def_ 25 (d := d25) rfl; exact ⟨_, fd, F, He.meth_ok (c.fact 59 (f := .meth "Book" "who") rfl)⟩⟩
  f_copied_from := ⟨by obtain ⟨fd, F⟩ := c.def_ 26 (d := d26) rfl; exact ⟨_, fd, F, He.glo_ok X G (c.fact 60 (f := .glo "copied_from") rfl)⟩⟩
  f_may_hold := ⟨by obtain ⟨fd, F⟩ := c.def_ 27 (d := d27) rfl; exact ⟨_, fd, F, He.glo_ok X G (c.fact 61 (f := .glo "may_hold") rfl)⟩⟩
  f_answer := ⟨by obtain ⟨fd, F⟩ := c.def_ 28 (d := d28) rfl; exact ⟨_, fd, F, He.glo_ok X G (c.fact 62 (f := .glo "answer") rfl)⟩⟩
  f_could := ⟨by obtain ⟨fd, F⟩ := c.def_ 29 (d := d29) rfl; exact ⟨_, fd, F, He.glo_ok X G (c.fact 63 (f := .glo "could") rfl)⟩⟩
  f_l_words := ⟨by obtain ⟨fd, F⟩ := c.def_ 30 (d := d30) rfl; exact ⟨_, fd, F, He.glo_ok X G (c.fact 64 (f := .glo "_law_words") rfl)⟩⟩
  f_Book_holders := ⟨by obtain ⟨fd, F⟩ := c.def_ 31 (d := d31) rfl; exact ⟨_, fd, F, He.meth_ok (c.fact 65 (f := .meth "Book" "holders") rfl)⟩⟩
  f_Book_locks := ⟨by obtain ⟨fd, F⟩ := c.def_ 32 (d := d32) rfl; exact ⟨_, fd, F, He.meth_ok (c.fact 66 (f := .meth "Book" "locks") rfl)⟩⟩
  f_openers := ⟨by obtain ⟨fd, F⟩ := c.def_ 33 (d := d33) rfl; exact ⟨_, fd, F, He.glo_ok X G (c.fact 67 (f := .glo "openers") rfl)⟩⟩
  f_first := ⟨by obtain ⟨fd, F⟩ := c.def_ 34 (d := d34) rfl; exact ⟨_, fd, F, He.glo_ok X G (c.fact 68 (f := .glo "first") rfl)⟩⟩
  f_law := ⟨by obtain ⟨fd, F⟩ := c.def_ 35 (d := d35) rfl; exact ⟨_, fd, F, He.glo_ok X G (c.fact 69 (f := .glo "law") rfl)⟩⟩
  j_BadTimes := by obtain ⟨fd, F⟩ := c.def_ 36 (d := d36) rfl; have m := He.meth_ok (c.fact 70 (f := .meth "BadTimes" "__init__") rfl); exact ⟨_, fd, F, m.at_, beq_iff_eq.mp m.fn⟩
theorem facts {P : Program} {w : World} {K : PySem.W.Frag} {h : Heap} {mg : Str → Option Value} {f : Addr} (X : K.In h) (G : h.Ns mainGlobals mg) (hfa : mg ("law" : Str) = some (.ref f)) (c : He.SaysD fa fn K) (e : ex K = true) :
    ∃ fd : FuncData, (∀ (s : Shared) (v : Value), BindsTo s fd ⟨[v], []⟩ [("_law_script", v)]) ∧ ∀ base : Heap, K.In base → base.Ns mainGlobals mg → LamX.TabB base mg (He.cT K ("_law_turn", none)).1 (KR.tbAt K "_law_turn") → FnOk P w K mg base (L2.CX P w) 9 f fd ["_law_script"] (KR.spF K (He.ga K "Book") 1 KR.phi_law_v16) := by
  obtain ⟨fd, F⟩ := c.def_ 35 (d := d35) rfl
  have e1 := hfa.symm.trans (He.glo_ok X G (c.fact 69 (f := .glo "law") rfl))
  cases e1
  have b := FunD.bindsA (ps := ["_law_script"]) F fun _ _ _ _ _ _ us hl => match us, hl with | [_], _ => rfl
  exact ⟨fd, fun s v => b s [v] rfl, fun base X2 G2 tb => KR.ok_law_at (txt X2 G2 c (ex_all e)) tb F⟩
end Hd
open PySem PySem.W PySem.Calls PyProof.Rows
theorem PySem.Challenge.cw_keyroll_k39_whole_holders_and_openers_holds : PySem.Challenge.rw_keyroll_k39_whole_holders_and_openers.Holds := by
  w_on; o_law
  refine HandSHeadRun.head_any (r := OpenLaw.row PySem.Challenge.rw_keyroll_k39_whole_holders_and_openers) (q := view (OpenLaw.row PySem.Challenge.rw_keyroll_k39_whole_holders_and_openers).prog [44]) (H := Hd.hk) (ob := Hd.ob) (M := 9000) (loose := Hd.names) (d := HandSHeadRun.topDef (OpenLaw.row PySem.Challenge.rw_keyroll_k39_whole_holders_and_openers).prog 44) (kwd := []) Hd.ob_eq
    (by kernel_rfl) (fun s => by kernel_rfl) Hd.run (by kernel_rfl) (by kernel_rfl) (by kernel_rfl) (by rfl) (by first | assumption | decide +kernel) (by decide +kernel) ⟨rfl, rfl, rfl, rfl, rfl, by decide +kernel⟩ ?hw ?hc
  case hw => w_witness2
  case hc =>
    refine KR.law_walkT (t := "_law_turn") (l := PySem.Challenge.rw_keyroll_k39_whole_holders_and_openers) (k := 9) (x := "_law_script") rfl (by kernel_rfl) ⟨rfl, by decide, by decide⟩ KR.law39 fun w mg fa h Y G hmg0 => ?_
    obtain ⟨K, KX, c⟩ := Y
    have hmg : mg ("law" : PySem.Str) = some (.ref fa) := by
      have e : (HandSHeadRun.topDef (OpenLaw.row PySem.Challenge.rw_keyroll_k39_whole_holders_and_openers).prog 44).name = ("law" : PySem.Str) := by kernel_rfl
      rw [← e]
      exact hmg0
    obtain ⟨fd, hb, hF⟩ := Hd.facts (P := (PySem.Challenge.rw_keyroll_k39_whole_holders_and_openers).prog) (w := w) KX G hmg c.d c.ex
    exact ⟨K, fd, KX, c.empty _ (List.mem_singleton.mpr rfl), c.out _ (List.mem_singleton.mpr rfl), c.hd _ (List.mem_singleton.mpr rfl), hb, hF⟩
