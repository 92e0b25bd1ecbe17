import PyProof.Rows.All
import Wide.All
import OpenK.AllK
import Wide.FinOn
import KE.GoesNew
import HandS.ForMost
import HandS.Zip
import HandS.IsInst
import HandS.Wide
import HandS.Walk
import HandS.TupAny
import HandS.Codes
import HandS.Nested
import HandS.EndTab
import HandS.ForExc
import HandS.Finally
import HandS.TryMany
import HandS.ExcInit
import PySem.Challenge.RW_twotides_k14_whole_tries_put_back
import KE.KStateDown
import KE.KExcSuper
import KE.KNest
import KE.KNestM
import HandS.Base
import HandS.Call
import HandS.Exc
import HandS.ExcField
import HandS.Head0
import HandS.Head1
import HandS.Head2
import HandS.HeadEnd
import HandS.HeadHook1
import HandS.HeadHook2
import HandS.HeadHook3
import HandS.HeadHook4
import HandS.HeadWalk
import KE.GoesEnum
import HandS.SortRule
set_option Elab.async false
set_option linter.all false
set_option maxRecDepth 100000
set_option maxHeartbeats 0
section
/-! 1. The text by places; rules that the layer has not. -/
namespace K14
open PySem PySem.Spec PyProof.Rows L2
/-- the i-th statement of the text -/
def top (i : Nat) : Stmt := PySem.Challenge.pw_twotides_k14_whole_tries_put_back.main.body.getD i (.Pass ⟨0, 0, 0, 0⟩)
/-- a def of the module, its address left open -/
def DefAt (K : PySem.W.Frag) (mg : Str → Option Value) (x : Str) (st : Stmt) (ps : List Str) : Prop := ∃ f fd, C8.Def K mg x st f fd ∧ Binds K fd ps []
section
variable {P : Program} {w : World} {K : PySem.W.Frag} {mg : Str → Option Value} {base : Heap}
theorem calD {x : Str} {st : Stmt} {N ps : List Str} {k : Nat} {sp : Sp} (D : DefAt K mg x st ps) (S : FnScope N ps (C8.fnScope st)) (len : ∀ vs H Q E, sp vs H Q E → vs.length = ps.length)
    (hbody : ∀ (f : Addr) (cdv : Value) (A : Around) (outer : List Env) (s : Shared) (H : Hp) (vs : List V) (Q : VK) (E : XK), Room k (A.deeper (envOfC x (C8.fnScope st) s.heap.objs.size f cdv)) → sp vs H Q E →
      ∃ t, PSs (cxOf C8.CX0 P w K mg base N x (C8.fnScope st) f cdv A outer s H E).nox (C8.fnBody st) t ∧ t { nx := fun _ H' => Q .non H', rt := Q } (L2.start N vs) H) : C8.Cal P w K mg base (k + 1) x sp [] := by
  obtain ⟨f, fd, d, b⟩ := D
  exact C8.cal0 d b .nil S len fun cdv A outer s H vs Q E hr h => hbody f cdv A outer s H vs Q E hr h
/-- a method of the class at C -/
def MetAt (K : PySem.W.Frag) (C : Addr) (m qual : Str) (st : Stmt) (ps : List Str) : Prop := ∃ f fd, Meth K C m f ∧ C8.Fun K m qual st f fd ∧ Binds K fd ps []
theorem metD {m qual : Str} {C : Addr} {st : Stmt} {N ps : List Str} {k : Nat} {sp : Sp} (c : Cls K C) (D : MetAt K C m qual st ps) (S : FnScope N ps (C8.fnScope st)) (len : ∀ vs H Q E, sp vs H Q E → vs.length = ps.length)
    (hbody : ∀ (f : Addr) (cdv : Value) (A : Around) (outer : List Env) (s : Shared) (H : Hp) (vs : List V) (Q : VK) (E : XK), Room k (A.deeper (envOfC qual (C8.fnScope st) s.heap.objs.size f cdv)) → sp vs H Q E →
      ∃ t, PSs (cxOf C8.CX0 P w K mg base N qual (C8.fnScope st) f cdv A outer s H E).nox (C8.fnBody st) t ∧ t { nx := fun _ H' => Q .non H', rt := Q } (L2.start N vs) H) : C8.Met P w K mg base (k + 1) C m sp [] := by
  obtain ⟨f, fd, me, F, b⟩ := D
  exact C8.met0 c me F b S len fun cdv A outer s H vs Q E hr h => hbody f cdv A outer s H vs Q E hr h
end
/-! ### subscripts of a list or a tuple; xs[i] op= e -/
section
variable {X : Cx}
def Sq (K : PySem.W.Frag) (H : Hp) (p : Addr) (xs : List V) : Prop := SqL K H p xs ∨ SqT K H p xs
def rIxQ (K : PySem.W.Frag) : R2 := fun x y H Q => ∃ p xs i v, x = .ref p ∧ y = .int i ∧ Sq K H p xs ∧ atI xs i = some v ∧ Q v H
theorem ix_sq : IxR X (rIxQ X.K) := by
  intro value slice pins s σ H x y v u Q I rx ry h hs
  obtain ⟨p, xs, i, z, e1, e2, hq, he, q⟩ := h
  rcases hq with hq | hq
  · exact ix_list value slice pins s σ H x y v u Q I rx ry ⟨p, xs, i, z, e1, e2, hq, he, q⟩ hs
  · exact ix_tup value slice pins s σ H x y v u Q I rx ry ⟨p, xs, i, z, e1, e2, hq, he, q⟩ hs
theorem ix_k {K : PySem.W.Frag} (e : X.K = K) : IxR X (rIxQ K) := by
  rw [← e]
  exact ix_sq
def rGetL (K : PySem.W.Frag) : V → V → Hp → VK → Prop := fun o i H Q => ∃ p xs k j v, o = .ref p ∧ i = .int k ∧ SqL K H p xs ∧ k = ((j : Nat) : Int) ∧ xs[j]? = some v ∧ Q v H
theorem get_list : PGet X (rGetL X.K) := by
  intro pins s σ H o i ov iv Q I ro ri h
  obtain ⟨p, xs, k, j, v, rfl, rfl, hq, rfl, hj, q⟩ := h
  cases ro
  obtain ⟨t, rfl⟩ := ri
  obtain ⟨its, r, pl, hz⟩ := I.list hq
  obtain ⟨u, eu, ru⟩ := r.get hj
  have hlt := (List.getElem?_eq_some_iff.mp hj).1
  have hn := line63
  exact wpAny_getItem_list pl.isList (by omega) (by omega) (by simpa using eu) ⟨v, H, I, ru, q⟩
end
/-! ### max of three -/
theorem F_args_max3 (a b c : Value) : argsOk "max" ⟨[a, b, c], []⟩ := by unfold argsOk; kernel_rfl
section
variable {prog : Program} {w : World} {A : Around} {E : Value → Shared → Prop} {s : Shared}
theorem max_three {a b c : Value} {Q : Value → Shared → Prop}
    (h : wpAny (model prog w) A.in1 (pyIter (.ref s.heap.objs.size)) (fun it s2 => ∃ I fp wr n Pt St bt, it = .ref I ∧ Walks prog w A.in1 I fp wr n Pt St ∧ St 0 s2.heap ∧ (∀ b ∈ fp, b < s2.heap.objs.size) ∧ 0 < n ∧ CmpOf prog w A.in1 .Gt Pt bt ∧
      ∀ v h' tk, Pt (argBest bt (n - 1)) v → (∀ b o, b ∉ wr → s2.heap.get? b = some o → h'.get? b = some o) → Q v { s2 with heap := h', toks := tk }) E
      { s with heap := s.heap.push { cls := .type "tuple", data := .seq #[a, b, c] } }) :
    wpAny (model prog w) A (call (.builtin "max") [a, b, c]) Q E s := by
  have nm : (toString "max" ++ toString ".loop" : String) = "max.loop" := by decide
  refine call_function_tree F.kind_max F.plain_max F.entry_max (F_args_max3 a b c) ?_
  show wpAny _ A.in1 (Builtin.Builtins.bindParams "max" ["key", "default"] 0 ⟨[], []⟩ >>= _) _ _ s
  refine wpAny_bind (wpAny_of_eq (a := [none, none]) rfl ?_)
  show wpAny _ A.in1 (newTuple [a, b, c] >>= _) _ _ s
  refine wpAny_bind (wpAny_newObj_type (wpAny_bind (wpAny_mono h (fun it s2 h2 => ?_) fun _ _ e => e)))
  obtain ⟨I, fp, wr, n, Pt, St, bt, rfl, W, hst, hfp, hn, hcmp, hQ⟩ := h2
  have nf : s2.heap.objs.size ∉ fp := fun hm => absurd (hfp _ hm) (Nat.lt_irrefl _)
  refine wpAny_bind (wpAny_newObj_type ?_)
  rw [nm]
  refine wpAny_pure ⟨plainId_quiet F.plain_max_loop _, codeAny_max_loop_first W bt hcmp s2.heap.objs.size nf hn ?_ (Heap.get?_push_size _ rfl) fun v h' tk hP hk => ?_⟩
  · exact W.frame _ _ _ hst fun b _ o e => Heap.get?_push_of_some _ e
  · exact hQ v h' tk hP fun b o hb e => hk b o hb (Nat.ne_of_lt (Heap.lt_size e)) (Heap.get?_push_of_some _ e)
theorem max_three_ints {a b c : Int} {t u v : Tok} {Q : Value → Shared → Prop} (hh : A.handled = none)
    (h : ∀ z k h' tk t', z = Value.int k t' → (k = a ∨ k = b ∨ k = c) → a ≤ k → b ≤ k → c ≤ k → (∀ c o, s.heap.get? c = some o → h'.get? c = some o) → Q z { s with heap := h', toks := tk }) :
    wpAny (model prog w) A (call (.builtin "max") [.int a t, .int b u, .int c v]) Q E s := by
  have hT : (s.heap.push { cls := .type "tuple", data := .seq #[.int a t, .int b u, .int c v] }).IsTuple s.heap.objs.size (intItems #[(a, t), (b, u), (c, v)]) := ⟨_, Heap.get?_push_size _ rfl, rfl, 0, by simp [intItems]⟩
  refine max_three (wpAny_pyIter_tuple hT ?_)
  have hsz : (s.heap.push { cls := .type "tuple", data := .seq #[.int a t, .int b u, .int c v] }).objs.size = s.heap.objs.size + 1 := Heap.size_push ..
  refine ⟨_, [_, s.heap.objs.size], [_], _, _, _, _, rfl, Walks.tuple (A := A.in1) hh _ s.heap.objs.size (by rw [hsz]; exact Nat.ne_of_lt (Nat.lt_succ_self _)) (intItems #[(a, t), (b, u), (c, v)]),
    ⟨⟨_, Heap.get?_push_size _ rfl, rfl, rfl⟩, hT.push _⟩, fun d hd => ?_, by simp [intItems], CmpOf.ints_gt (numAt #[(a, t), (b, u), (c, v)]) (fun _ _ => intItems_at), fun z h' tk hP hk => ?_⟩
  · have e : d = (s.heap.push { cls := .type "tuple", data := .seq #[.int a t, .int b u, .int c v] }).objs.size ∨ d = s.heap.objs.size := by simpa using hd
    show d < ((s.heap.push _).push _).objs.size
    rw [Heap.size_push]
    rcases e with e | e
    · rw [e, hsz]; exact Nat.lt_succ_self _
    · rw [e, hsz]; exact Nat.lt_succ_of_lt (Nat.lt_succ_self _)
  · have old : ∀ c o, s.heap.get? c = some o → h'.get? c = some o := fun d o e => by
      refine hk d o (fun hm => ?_) (Heap.get?_push_of_some _ (Heap.get?_push_of_some _ e))
      have e1 : d = (s.heap.push { cls := .type "tuple", data := .seq #[.int a t, .int b u, .int c v] }).objs.size := by simpa using hm
      have := Heap.lt_size e
      rw [e1, hsz] at this
      exact Nat.lt_irrefl _ (Nat.lt_of_succ_lt this)
    have h2 : (intItems #[(a, t), (b, u), (c, v)])[argBest (fun i j => decide (numAt #[(a, t), (b, u), (c, v)] i > numAt #[(a, t), (b, u), (c, v)] j)) 2]? = some z := by simpa [intItems] using hP
    by_cases hba : b > a
    · have e1 : argBest (fun i j => decide (numAt #[(a, t), (b, u), (c, v)] i > numAt #[(a, t), (b, u), (c, v)] j)) 1 = 1 := by simp [argBest, numAt, hba]
      by_cases hcb : c > b
      · have e2 : argBest (fun i j => decide (numAt #[(a, t), (b, u), (c, v)] i > numAt #[(a, t), (b, u), (c, v)] j)) 2 = 2 := by
          rw [argBest, e1]; simp [numAt, hcb]
        rw [e2] at h2
        exact h z c h' tk v (by simpa [intItems] using h2.symm) (.inr (.inr rfl)) (by omega) (by omega) (by omega) old
      · have e2 : argBest (fun i j => decide (numAt #[(a, t), (b, u), (c, v)] i > numAt #[(a, t), (b, u), (c, v)] j)) 2 = 1 := by
          rw [argBest, e1]; simp [numAt, hcb]
        rw [e2] at h2
        exact h z b h' tk u (by simpa [intItems] using h2.symm) (.inr (.inl rfl)) (by omega) (by omega) (by omega) old
    · have e1 : argBest (fun i j => decide (numAt #[(a, t), (b, u), (c, v)] i > numAt #[(a, t), (b, u), (c, v)] j)) 1 = 0 := by simp [argBest, numAt, hba]
      by_cases hcb : c > a
      · have e2 : argBest (fun i j => decide (numAt #[(a, t), (b, u), (c, v)] i > numAt #[(a, t), (b, u), (c, v)] j)) 2 = 2 := by
          rw [argBest, e1]; simp [numAt, hcb]
        rw [e2] at h2
        exact h z c h' tk v (by simpa [intItems] using h2.symm) (.inr (.inr rfl)) (by omega) (by omega) (by omega) old
      · have e2 : argBest (fun i j => decide (numAt #[(a, t), (b, u), (c, v)] i > numAt #[(a, t), (b, u), (c, v)] j)) 2 = 0 := by
          rw [argBest, e1]; simp [numAt, hcb]
        rw [e2] at h2
        exact h z a h' tk t (by simpa [intItems] using h2.symm) (.inl rfl) (by omega) (by omega) (by omega) old
end
section
variable {X : Cx}
/-- max(i, j, k): the greatest -/
theorem call_max3 (hc : X.calm = true) : CallR X (.builtin "max") (fun xs H Q => ∃ i j k, xs = [.int i, .int j, .int k] ∧ ∀ m, (m = i ∨ m = j ∨ m = k) → i ≤ m → j ≤ m → k ≤ m → Q (.int m) H) := by
  intro pins s σ H xs us Q I r h
  obtain ⟨i, j, k, rfl, q⟩ := h
  cases r with
  | cons r1 r => cases r with
    | cons r2 r => cases r with
      | cons r3 r =>
        cases r
        obtain ⟨t1, rfl⟩ := r1
        obtain ⟨t2, rfl⟩ := r2
        obtain ⟨t3, rfl⟩ := r3
        refine max_three_ints (I.ok.hd hc) fun z m h' tk t' ez hm h1 h2 h3 old => ?_
        subst ez
        exact ⟨.int m, H, I.kept (t' := tk) old, ⟨_, rfl⟩, q m hm h1 h2 h3⟩
/-! ### zip of a tuple, a tuple and a list; enumerate of a tuple -/
/-- a new triple of the i-th of each -/
def It3 (K : PySem.W.Frag) (a b c : Addr) : It :=
  ⟨fun i H => ∃ (xs ys zs : List V) (x y z : V), SqT K H a xs ∧ SqT K H b ys ∧ SqL K H c zs ∧ xs[i]? = some x ∧ ys[i]? = some y ∧ zs[i]? = some z,
    fun i H v H' => ∃ T x y z, v = .ref T ∧ H T = none ∧ H' = upd H T (.tup [x, y, z]) ∧ (∀ xs, SqT K H a xs → xs[i]? = some x) ∧ (∀ ys, SqT K H b ys → ys[i]? = some y) ∧ ∀ zs, SqL K H c zs → zs[i]? = some z,
    fun i H => ∃ xs ys zs : List V, SqT K H a xs ∧ SqT K H b ys ∧ SqL K H c zs ∧ xs.length = i ∧ ys.length = i ∧ zs.length = i⟩
/-- where its six records stand -/
structure Sep3 (z TI TO i1 i2 i3 a b c : Addr) : Prop where
  sep : ZipSep3 z TI TO i1 i2 i3 [i1, a] [i2, b] [i3, c]
  na : a ≠ i1
  nb : b ≠ i2
  nc : c ≠ i3
theorem turn_zip3 {P : Program} {w : World} {K : PySem.W.Frag} {elts : List Expr} {kk : Nat} {tpos : Pos} {a b c z TI TO i1 i2 i3 : Addr} (D : Sep3 z TI TO i1 i2 i3 a b c) :
    Turn P w K (.Tuple elts kk tpos) (It3 K a b c) [z, TI, TO, i1, i2, i3] z
      (fun i h => IsZip h z TI TO .none ∧ IsTupOf3 h TI (.ref i1) (.ref i2) (.ref i3) ∧ (∃ a1 a2 a3, IsTupOf3 h TO a1 a2 a3) ∧ h.IsTupleIter i1 a i ∧ h.IsTupleIter i2 b i ∧ h.IsListIter i3 c i) where
  mem := by simp
  obj := fun i h st d hd => by
    obtain ⟨hz, hTI, ⟨x, y, u, hTO⟩, ⟨o1, e1, _, d1⟩, ⟨o2, e2, _, d2⟩, ⟨o3, e3, _, d3⟩⟩ := st
    have e' : d = z ∨ d = TI ∨ d = TO ∨ d = i1 ∨ d = i2 ∨ d = i3 := by simpa using hd
    rcases e' with q | q | q | q | q | q <;> subst q
    · exact ⟨_, hz, fun v q => nomatch q⟩
    · exact ⟨_, hTI, fun v q => nomatch q⟩
    · exact ⟨_, hTO, fun v q => nomatch q⟩
    · exact ⟨o1, e1, fun v q => by rw [d1] at q; cases q⟩
    · exact ⟨o2, e2, fun v q => by rw [d2] at q; cases q⟩
    · exact ⟨o3, e3, fun v q => by rw [d3] at q; cases q⟩
  keep := fun i h h' st k => by
    obtain ⟨hz, hTI, ⟨x, y, u, hTO⟩, h1, h2, h3⟩ := st
    exact ⟨k z (by simp) _ hz, k TI (by simp) _ hTI, ⟨x, y, u, k TO (by simp) _ hTO⟩, h1.at fun o q => k i1 (by simp) o q, h2.at fun o q => k i2 (by simp) o q, h3.at fun o q => k i3 (by simp) o q⟩
  item := by
    intro X hP hw hK hc i pins s σ H E I hf st hg
    subst hP hw hK
    obtain ⟨hz, hTI, hTO, h1, h2, h3⟩ := st
    obtain ⟨xs, ys, zs, x, y, v, qx, qy, qz, hx, hy, hv⟩ := hg
    obtain ⟨l1, r1, p1, z1⟩ := I.tuple qx
    obtain ⟨l2, r2, p2, z2⟩ := I.tuple qy
    obtain ⟨l3, r3, p3, z3⟩ := I.list qz
    have hh := I.ok.hd hc
    have W := GoesN.zip3 (prog := X.prog) (w := X.w) (A := X.A) (elts := elts) (x1 := kk) (pos := tpos) D.sep (Draws.tuple (A := X.A.in1) hh i1 a D.na l1.toArray) (Draws.tuple (A := X.A.in1) hh i2 b D.nb l2.toArray) (Draws.list (A := X.A.in1) hh i3 c D.nc l3.toArray)
    have b1 := (List.getElem?_eq_some_iff.mp hx).1
    have b2 := (List.getElem?_eq_some_iff.mp hy).1
    have b3 := (List.getElem?_eq_some_iff.mp hv).1
    have m1 := r1.length
    have m2 := r2.length
    have m3 := r3.length
    have hi : i < min (min l1.toArray.size l2.toArray.size) l3.toArray.size := by
      simp only [List.size_toArray]
      omega
    refine W.goes i s _ E hi ⟨hz, hTI, hTO, ⟨h1, p1⟩, ⟨h2, p2⟩, ⟨h3, p3.isList⟩⟩ fun u h' tk hY st' hk htk => ?_
    obtain ⟨T, u1, u2, u3, rfl, hT, g1, g2, g3, tup⟩ := hY
    obtain ⟨w1, e1, rv1⟩ := r1.get hx
    obtain ⟨w2, e2, rv2⟩ := r2.get hy
    obtain ⟨w3, e3, rv3⟩ := r3.get hv
    have f1 : u1 = w1 := Option.some.inj (g1.symm.trans (by simpa using e1))
    have f2 : u2 = w2 := Option.some.inj (g2.symm.trans (by simpa using e2))
    have f3 : u3 = w3 := Option.some.inj (g3.symm.trans (by simpa using e3))
    subst f1 f2 f3
    obtain ⟨s1, s2, s3, s4, s5, s6⟩ := st'
    have new : ObjOk X.prog X.w (upd H T (.tup [x, y, v])) h' T (.tup [x, y, v]) :=
      ⟨by show 3 ≤ sizeLine; decide, [u1, u2, u3], .cons rv1 (.cons rv2 (.cons rv3 .nil)), tup⟩
    have nT : ∀ d ∈ [z, TI, TO, i1, i2, i3], d ≠ T := fun d hd => by
      have e' : d = z ∨ d = TI ∨ d = TO ∨ d = i1 ∨ d = i2 ∨ d = i3 := by simpa using hd
      have lt : d < s.heap.objs.size := by
        rcases e' with q | q | q | q | q | q <;> subst q
        · exact Heap.lt_size hz
        · exact Heap.lt_size hTI
        · obtain ⟨_, _, _, q⟩ := hTO; exact Heap.lt_size q
        · obtain ⟨_, q, _⟩ := h1; exact Heap.lt_size q
        · obtain ⟨_, q, _⟩ := h2; exact Heap.lt_size q
        · obtain ⟨_, q, _⟩ := h3; exact Heap.lt_size q
      exact Nat.ne_of_lt (Nat.lt_of_lt_of_le lt hT)
    have I1 : Inv X pins σ (upd H T (.tup [x, y, v])) { s with heap := h', toks := tk } :=
      I.turnedNew (ch := [z, TI, TO, i1, i2, i3]) (fun d o hb q => hk d o (fun hm => hb (by
        have e' : d = z ∨ d = TO ∨ d = i1 ∨ d = i2 ∨ d = i3 := by simpa using hm
        rcases e' with q | q | q | q | q <;> simp [q])) q) hf hT new
    exact ⟨.ref T, _, I1, rfl, ⟨T, x, y, v, rfl, I.hok.fresh hT, rfl, fun l hl => by rw [I.tuple_inj hl qx]; exact hx, fun l hl => by rw [I.tuple_inj hl qy]; exact hy, fun l hl => by rw [I.list_inj hl qz]; exact hv⟩,
      ⟨s1, s2, s3, s4.1, s5.1, s6.1⟩, fun d hd => by rw [upd_ne (nT d hd)]; exact (hf d hd).1⟩
  done := by
    intro X hP hw hK hc i pins s σ H E I hf st hg
    subst hP hw hK
    obtain ⟨hz, hTI, hTO, h1, h2, h3⟩ := st
    obtain ⟨xs, ys, zs, qx, qy, qz, n1, n2, n3⟩ := hg
    obtain ⟨l1, r1, p1, z1⟩ := I.tuple qx
    obtain ⟨l2, r2, p2, z2⟩ := I.tuple qy
    obtain ⟨l3, r3, p3, z3⟩ := I.list qz
    have hh := I.ok.hd hc
    have W := GoesN.zip3 (prog := X.prog) (w := X.w) (A := X.A) (elts := elts) (x1 := kk) (pos := tpos) D.sep (Draws.tuple (A := X.A.in1) hh i1 a D.na l1.toArray) (Draws.tuple (A := X.A.in1) hh i2 b D.nb l2.toArray) (Draws.list (A := X.A.in1) hh i3 c D.nc l3.toArray)
    have m1 := r1.length
    have m2 := r2.length
    have m3 := r3.length
    have hi : min (min l1.toArray.size l2.toArray.size) l3.toArray.size = i := by
      simp only [List.size_toArray]
      omega
    rw [hi] at W
    refine wpAny_mono (W.stops s (fun s1 => Inv X pins σ H s1) E ⟨hz, hTI, hTO, ⟨h1, p1⟩, ⟨h2, p2⟩, ⟨h3, p3.isList⟩⟩ fun h' tk hk htk => ?_) (fun _ _ q => q) fun _ _ q => q
    exact I.turnedL (ch := [z, TI, TO, i1, i2, i3]) (fun d o hb q => hk d o (fun hm => hb (by
        have e' : d = z ∨ d = TO ∨ d = i1 ∨ d = i2 ∨ d = i3 := by simpa using hm
        rcases e' with q | q | q | q | q <;> simp [q])) q) hf
  self := fun A i s Q E st h => wpAny_pyIter_zip st.1 h
def iZip3 (K : PySem.W.Frag) (ta : TA) : TI := fun σ H R => ta σ H fun vs H1 => ∃ a b c xs ys zs, vs = [.ref a, .ref b, .ref c] ∧ SqT K H1 a xs ∧ SqT K H1 b ys ∧ SqL K H1 c zs ∧ R (It3 K a b c) H1
theorem pi_zip3 {e e2 e3 : Expr} {ta : TA} {p pos tpos : Pos} {elts : List Expr} {kk : Nat} (hg : Gl X "zip") (hm : X.mg "zip" = none) (ha : PA X [e, e2, e3] ta)
    (hs : starEach [e, e2, e3] X.env = (false, eval e X.env) :: starEach [e2, e3] X.env := by rfl) (hpl : (backTo pos (starEach [e2, e3] X.env)).any (·.1) = false := by rfl) :
    PI X (.Tuple elts kk tpos) (.Call (.Name "zip" p) [e, e2, e3] [] pos) (iZip3 X.K ta) := by
  refine ⟨fun pins s σ H R I h => ?_⟩
  refine Call_ (ld_blt I hg hm PyProof.Rows.boot_zip (PyProof.Rows.callWith_type1 (thn (ha.run pos pins s σ H _ I h) fun us s1 ⟨vs, H1, I1, r1, q1⟩ => ?_) hs hpl))
  obtain ⟨a, b, c, xs, ys, zs, ex, qx, qy, qz, q⟩ := q1
  subst ex
  cases r1 with
  | cons r1 r => cases r with
    | cons r2 r => cases r with
      | cons r3 r =>
        cases r
        cases r1
        cases r2
        cases r3
        obtain ⟨l1, v1, p1, _⟩ := I1.tuple qx
        obtain ⟨l2, v2, p2, _⟩ := I1.tuple qy
        obtain ⟨l3, v3, p3, _⟩ := I1.list qz
        have la : a < s1.heap.objs.size := p1.lt
        have lb : b < s1.heap.objs.size := p2.lt
        have lc : c < s1.heap.objs.size := p3.lt
        have ps : ∀ (n : Nat) (x : Addr), x < s1.heap.objs.size → x ≠ s1.heap.objs.size + n := fun n x h => Nat.ne_of_lt (Nat.lt_of_lt_of_le h (Nat.le_add_right _ _))
        have sp : ZipSep3 (s1.heap.objs.size + 5) (s1.heap.objs.size + 3) (s1.heap.objs.size + 4) s1.heap.objs.size (s1.heap.objs.size + 1) (s1.heap.objs.size + 2) [s1.heap.objs.size, a] [s1.heap.objs.size + 1, b] [s1.heap.objs.size + 2, c] :=
          zip_sep3 (fp1 := [a]) (fp2 := [b]) (fp3 := [c]) (fun x hx => by rw [List.mem_singleton.mp hx]; exact la) (fun x hx => by rw [List.mem_singleton.mp hx]; exact lb) (fun x hx => by rw [List.mem_singleton.mp hx]; exact lc)
        refine zip_begins3 (begins_tuple a l1.toArray) (begins_tuple b l2.toArray) (begins_list c l3.toArray) p1 p2 p3.isList fun h' hz hTI hTO g1 g2 g3 hsz hk => wpAny_pyIter_zip hz ?_
        have I2 : Inv X pins σ H1 { s1 with heap := h' } := I1.kept (t' := s1.toks) hk
        refine ⟨s1.heap.objs.size + 5, [s1.heap.objs.size + 5, s1.heap.objs.size + 3, s1.heap.objs.size + 4, s1.heap.objs.size, s1.heap.objs.size + 1, s1.heap.objs.size + 2], _, _, H1, rfl, I2, turn_zip3 ⟨sp, ps 0 a la, ps 1 b lb, ps 2 c lc⟩,
          ⟨hz, hTI, ⟨_, _, _, hTO⟩, ⟨_, g1, rfl, rfl⟩, ⟨_, g2, rfl, rfl⟩, ⟨_, g3, rfl, rfl⟩⟩, fun d hd => ?_, q⟩
        have e' : d = s1.heap.objs.size + 5 ∨ d = s1.heap.objs.size + 3 ∨ d = s1.heap.objs.size + 4 ∨ d = s1.heap.objs.size ∨ d = s1.heap.objs.size + 1 ∨ d = s1.heap.objs.size + 2 := by simpa using hd
        have hle : s1.heap.objs.size ≤ d := by
          rcases e' with q | q | q | q | q | q <;> rw [q] <;> first | exact Nat.le_refl _ | exact Nat.le_add_right _ _
        exact I1.fpOk hle (I1.hok.fresh hle)
theorem walk_zip3 {K : PySem.W.Frag} {a b c : Addr} {xs ys zs : List V} (h1 : ys.length = xs.length) (h2 : zs.length = xs.length) : Walk (It3 K a b c) xs.length (fun H => SqT K H a xs ∧ SqT K H b ys ∧ SqL K H c zs)
    (fun i H v H' => ∃ T x y z, v = .ref T ∧ H T = none ∧ H' = upd H T (.tup [x, y, z]) ∧ xs[i]? = some x ∧ ys[i]? = some y ∧ zs[i]? = some z) :=
  ⟨fun i H hi ⟨q1, q2, q3⟩ => ⟨xs, ys, zs, xs[i], ys[i], zs[i], q1, q2, q3, by simp [hi], by simp [show i < ys.length by omega], by simp [show i < zs.length by omega]⟩,
    fun H ⟨q1, q2, q3⟩ => ⟨xs, ys, zs, q1, q2, q3, rfl, h1, h2⟩,
    fun i H v H' _ ⟨q1, q2, q3⟩ ⟨T, x, y, z, e1, e2, e3, f1, f2, f3⟩ => ⟨T, x, y, z, e1, e2, e3, f1 xs q1, f2 ys q2, f3 zs q3⟩⟩
end
end K14
end
section
namespace K14H
open PySem PySem.Spec PyProof.Rows L2
def names0 : List PySem.Str := ["_wall", "TidesError", "NoNumber", "BadWeb", "TooLarge", "BadBook", "NoFilling", "NoOpening", "TooMany", "NoSights", "BadAnswer", "BadOpening", "BadText", "NoLine", "NoName", "NothingDone", "is_integer", "is_between", "is_pair", "is_triple", "is_row", "is_lot", "check_number", "divisor", "multiple", "made", "is_fraction", "is_below", "next_whole", "MOST_THRESHOLDS"]
def names1 : List PySem.Str := ["MOST_TOP", "MOST_BOTTOM", "MOST_WIDTH", "is_threshold", "is_list", "is_width", "parts_of_grain", "in_grains", "is_filling", "check_filling", "check_opening", "drops_in_grains", "runs_at", "flows_of", "opened", "nets_of", "moved", "running", "Play", "MOST_VESSELS", "MOST_PIPES", "are_widths", "is_pipe", "gauge", "Web", "_law_source", "_law_mixed", "_law_draw", "_law_pick", "_law_divisor"]
def names2 : List PySem.Str := ["_law_made", "_law_added", "_law_same", "_law_in_order", "_law_steps", "_law_flow", "_law_widths", "_law_pipe", "_law_pipes", "_law_water", "_law_filling", "_law_opening", "_law_level", "_law_drop", "_law_flows", "_law_nets", "_law_behind", "_law_amount", "_law_twin", "_law_model_tick", "_law_model_back", "_law_is_as", "_law_raised", "_law_first_told", "_law_fields", "_law_action", "_law_plan", "_law_plan_due"]
def names : List PySem.Str := names0 ++ names1 ++ names2
def fn0 : List He.DefD := [
  ⟨("is_integer", none), "is_integer", "is_integer", C8.fnArgs (K14.top 18), C8.fnBody (K14.top 18), C8.fnScope (K14.top 18), [], []⟩,
  ⟨("is_between", none), "is_between", "is_between", C8.fnArgs (K14.top 19), C8.fnBody (K14.top 19), C8.fnScope (K14.top 19), [], []⟩,
  ⟨("is_pair", none), "is_pair", "is_pair", C8.fnArgs (K14.top 20), C8.fnBody (K14.top 20), C8.fnScope (K14.top 20), [], []⟩,
  ⟨("is_triple", none), "is_triple", "is_triple", C8.fnArgs (K14.top 21), C8.fnBody (K14.top 21), C8.fnScope (K14.top 21), [], []⟩,
  ⟨("is_row", none), "is_row", "is_row", C8.fnArgs (K14.top 22), C8.fnBody (K14.top 22), C8.fnScope (K14.top 22), [], []⟩,
  ⟨("is_lot", none), "is_lot", "is_lot", C8.fnArgs (K14.top 23), C8.fnBody (K14.top 23), C8.fnScope (K14.top 23), [], []⟩,
  ⟨("check_number", none), "check_number", "check_number", C8.fnArgs (K14.top 24), C8.fnBody (K14.top 24), C8.fnScope (K14.top 24), [], []⟩,
  ⟨("divisor", none), "divisor", "divisor", C8.fnArgs (K14.top 26), C8.fnBody (K14.top 26), C8.fnScope (K14.top 26), [], []⟩,
  ⟨("multiple", none), "multiple", "multiple", C8.fnArgs (K14.top 27), C8.fnBody (K14.top 27), C8.fnScope (K14.top 27), [], []⟩,
  ⟨("made", none), "made", "made", C8.fnArgs (K14.top 28), C8.fnBody (K14.top 28), C8.fnScope (K14.top 28), [], []⟩,
  ⟨("is_fraction", none), "is_fraction", "is_fraction", C8.fnArgs (K14.top 29), C8.fnBody (K14.top 29), C8.fnScope (K14.top 29), [], []⟩,
  ⟨("is_below", none), "is_below", "is_below", C8.fnArgs (K14.top 30), C8.fnBody (K14.top 30), C8.fnScope (K14.top 30), [], []⟩,
  ⟨("next_whole", none), "next_whole", "next_whole", C8.fnArgs (K14.top 31), C8.fnBody (K14.top 31), C8.fnScope (K14.top 31), [], []⟩,
  ⟨("is_threshold", none), "is_threshold", "is_threshold", C8.fnArgs (K14.top 37), C8.fnBody (K14.top 37), C8.fnScope (K14.top 37), [], []⟩,
  ⟨("is_list", none), "is_list", "is_list", C8.fnArgs (K14.top 38), C8.fnBody (K14.top 38), C8.fnScope (K14.top 38), [], []⟩,
  ⟨("is_width", none), "is_width", "is_width", C8.fnArgs (K14.top 39), C8.fnBody (K14.top 39), C8.fnScope (K14.top 39), [], []⟩,
  ⟨("parts_of_grain", none), "parts_of_grain", "parts_of_grain", C8.fnArgs (K14.top 40), C8.fnBody (K14.top 40), C8.fnScope (K14.top 40), [], []⟩,
  ⟨("in_grains", none), "in_grains", "in_grains", C8.fnArgs (K14.top 41), C8.fnBody (K14.top 41), C8.fnScope (K14.top 41), [], []⟩,
  ⟨("is_filling", none), "is_filling", "is_filling", C8.fnArgs (K14.top 43), C8.fnBody (K14.top 43), C8.fnScope (K14.top 43), [], []⟩,
  ⟨("check_filling", none), "check_filling", "check_filling", C8.fnArgs (K14.top 44), C8.fnBody (K14.top 44), C8.fnScope (K14.top 44), [], []⟩]
def fn1 : List He.DefD := [
  ⟨("check_opening", none), "check_opening", "check_opening", C8.fnArgs (K14.top 45), C8.fnBody (K14.top 45), C8.fnScope (K14.top 45), [], []⟩,
  ⟨("drops_in_grains", none), "drops_in_grains", "drops_in_grains", C8.fnArgs (K14.top 46), C8.fnBody (K14.top 46), C8.fnScope (K14.top 46), [], []⟩,
  ⟨("runs_at", none), "runs_at", "runs_at", C8.fnArgs (K14.top 47), C8.fnBody (K14.top 47), C8.fnScope (K14.top 47), [], []⟩,
  ⟨("flows_of", none), "flows_of", "flows_of", C8.fnArgs (K14.top 48), C8.fnBody (K14.top 48), C8.fnScope (K14.top 48), [], []⟩,
  ⟨("opened", none), "opened", "opened", C8.fnArgs (K14.top 49), C8.fnBody (K14.top 49), C8.fnScope (K14.top 49), [], []⟩,
  ⟨("nets_of", none), "nets_of", "nets_of", C8.fnArgs (K14.top 50), C8.fnBody (K14.top 50), C8.fnScope (K14.top 50), [], []⟩,
  ⟨("moved", none), "moved", "moved", C8.fnArgs (K14.top 51), C8.fnBody (K14.top 51), C8.fnScope (K14.top 51), [], []⟩,
  ⟨("running", none), "running", "running", C8.fnArgs (K14.top 52), C8.fnBody (K14.top 52), C8.fnScope (K14.top 52), [], []⟩,
  ⟨("are_widths", none), "are_widths", "are_widths", C8.fnArgs (K14.top 58), C8.fnBody (K14.top 58), C8.fnScope (K14.top 58), [], []⟩,
  ⟨("is_pipe", none), "is_pipe", "is_pipe", C8.fnArgs (K14.top 59), C8.fnBody (K14.top 59), C8.fnScope (K14.top 59), [], []⟩,
  ⟨("gauge", none), "gauge", "gauge", C8.fnArgs (K14.top 60), C8.fnBody (K14.top 60), C8.fnScope (K14.top 60), [], []⟩,
  ⟨("_law_source", none), "_law_source", "_law_source", C8.fnArgs (K14.top 63), C8.fnBody (K14.top 63), C8.fnScope (K14.top 63), [], []⟩,
  ⟨("_law_mixed", none), "_law_mixed", "_law_mixed", C8.fnArgs (K14.top 64), C8.fnBody (K14.top 64), C8.fnScope (K14.top 64), [], []⟩,
  ⟨("_law_draw", none), "_law_draw", "_law_draw", C8.fnArgs (K14.top 65), C8.fnBody (K14.top 65), C8.fnScope (K14.top 65), [], []⟩,
  ⟨("_law_pick", none), "_law_pick", "_law_pick", C8.fnArgs (K14.top 66), C8.fnBody (K14.top 66), C8.fnScope (K14.top 66), [], []⟩,
  ⟨("_law_divisor", none), "_law_divisor", "_law_divisor", C8.fnArgs (K14.top 67), C8.fnBody (K14.top 67), C8.fnScope (K14.top 67), [], []⟩,
  ⟨("_law_made", none), "_law_made", "_law_made", C8.fnArgs (K14.top 68), C8.fnBody (K14.top 68), C8.fnScope (K14.top 68), [], []⟩,
  ⟨("_law_added", none), "_law_added", "_law_added", C8.fnArgs (K14.top 69), C8.fnBody (K14.top 69), C8.fnScope (K14.top 69), [], []⟩,
  ⟨("_law_same", none), "_law_same", "_law_same", C8.fnArgs (K14.top 70), C8.fnBody (K14.top 70), C8.fnScope (K14.top 70), [], []⟩,
  ⟨("_law_in_order", none), "_law_in_order", "_law_in_order", C8.fnArgs (K14.top 71), C8.fnBody (K14.top 71), C8.fnScope (K14.top 71), [], []⟩]
def fn2 : List He.DefD := [
  ⟨("_law_steps", none), "_law_steps", "_law_steps", C8.fnArgs (K14.top 72), C8.fnBody (K14.top 72), C8.fnScope (K14.top 72), [], []⟩,
  ⟨("_law_flow", none), "_law_flow", "_law_flow", C8.fnArgs (K14.top 73), C8.fnBody (K14.top 73), C8.fnScope (K14.top 73), [], []⟩,
  ⟨("_law_widths", none), "_law_widths", "_law_widths", C8.fnArgs (K14.top 74), C8.fnBody (K14.top 74), C8.fnScope (K14.top 74), [], []⟩,
  ⟨("_law_pipe", none), "_law_pipe", "_law_pipe", C8.fnArgs (K14.top 75), C8.fnBody (K14.top 75), C8.fnScope (K14.top 75), [], []⟩,
  ⟨("_law_pipes", none), "_law_pipes", "_law_pipes", C8.fnArgs (K14.top 76), C8.fnBody (K14.top 76), C8.fnScope (K14.top 76), [], []⟩,
  ⟨("_law_water", none), "_law_water", "_law_water", C8.fnArgs (K14.top 77), C8.fnBody (K14.top 77), C8.fnScope (K14.top 77), [], []⟩,
  ⟨("_law_filling", none), "_law_filling", "_law_filling", C8.fnArgs (K14.top 78), C8.fnBody (K14.top 78), C8.fnScope (K14.top 78), [], []⟩,
  ⟨("_law_opening", none), "_law_opening", "_law_opening", C8.fnArgs (K14.top 79), C8.fnBody (K14.top 79), C8.fnScope (K14.top 79), [], []⟩,
  ⟨("_law_level", none), "_law_level", "_law_level", C8.fnArgs (K14.top 80), C8.fnBody (K14.top 80), C8.fnScope (K14.top 80), [], []⟩,
  ⟨("_law_drop", none), "_law_drop", "_law_drop", C8.fnArgs (K14.top 81), C8.fnBody (K14.top 81), C8.fnScope (K14.top 81), [], []⟩,
  ⟨("_law_flows", none), "_law_flows", "_law_flows", C8.fnArgs (K14.top 82), C8.fnBody (K14.top 82), C8.fnScope (K14.top 82), [], []⟩,
  ⟨("_law_nets", none), "_law_nets", "_law_nets", C8.fnArgs (K14.top 83), C8.fnBody (K14.top 83), C8.fnScope (K14.top 83), [], []⟩,
  ⟨("_law_behind", none), "_law_behind", "_law_behind", C8.fnArgs (K14.top 84), C8.fnBody (K14.top 84), C8.fnScope (K14.top 84), [], []⟩,
  ⟨("_law_amount", none), "_law_amount", "_law_amount", C8.fnArgs (K14.top 85), C8.fnBody (K14.top 85), C8.fnScope (K14.top 85), [], []⟩,
  ⟨("_law_twin", none), "_law_twin", "_law_twin", C8.fnArgs (K14.top 86), C8.fnBody (K14.top 86), C8.fnScope (K14.top 86), [], []⟩,
  ⟨("_law_model_tick", none), "_law_model_tick", "_law_model_tick", C8.fnArgs (K14.top 87), C8.fnBody (K14.top 87), C8.fnScope (K14.top 87), [], []⟩,
  ⟨("_law_model_back", none), "_law_model_back", "_law_model_back", C8.fnArgs (K14.top 88), C8.fnBody (K14.top 88), C8.fnScope (K14.top 88), [], []⟩,
  ⟨("_law_is_as", none), "_law_is_as", "_law_is_as", C8.fnArgs (K14.top 89), C8.fnBody (K14.top 89), C8.fnScope (K14.top 89), [], []⟩,
  ⟨("_law_raised", none), "_law_raised", "_law_raised", C8.fnArgs (K14.top 90), C8.fnBody (K14.top 90), C8.fnScope (K14.top 90), [], []⟩,
  ⟨("_law_first_told", none), "_law_first_told", "_law_first_told", C8.fnArgs (K14.top 91), C8.fnBody (K14.top 91), C8.fnScope (K14.top 91), [], []⟩]
def fn3 : List He.DefD := [
  ⟨("_law_fields", none), "_law_fields", "_law_fields", C8.fnArgs (K14.top 92), C8.fnBody (K14.top 92), C8.fnScope (K14.top 92), [], []⟩,
  ⟨("_law_action", none), "_law_action", "_law_action", C8.fnArgs (K14.top 93), C8.fnBody (K14.top 93), C8.fnScope (K14.top 93), [], []⟩,
  ⟨("_law_plan", none), "_law_plan", "_law_plan", C8.fnArgs (K14.top 94), C8.fnBody (K14.top 94), C8.fnScope (K14.top 94), [], []⟩,
  ⟨("_law_plan_due", none), "_law_plan_due", "_law_plan_due", C8.fnArgs (K14.top 95), C8.fnBody (K14.top 95), C8.fnScope (K14.top 95), [], []⟩,
  ⟨("law", none), "law", "law", C8.fnArgs (K14.top 96), C8.fnBody (K14.top 96), C8.fnScope (K14.top 96), [], []⟩,
  ⟨("Play", some "__init__"), "__init__", "Play.__init__", C8.fnArgs (inClass (K14.top 54) 0), C8.fnBody (inClass (K14.top 54) 0), C8.fnScope (inClass (K14.top 54) 0), [], []⟩,
  ⟨("Play", some "now"), "now", "Play.now", C8.fnArgs (inClass (K14.top 54) 1), C8.fnBody (inClass (K14.top 54) 1), C8.fnScope (inClass (K14.top 54) 1), [], []⟩,
  ⟨("Play", some "tick"), "tick", "Play.tick", C8.fnArgs (inClass (K14.top 54) 2), C8.fnBody (inClass (K14.top 54) 2), C8.fnScope (inClass (K14.top 54) 2), [], []⟩,
  ⟨("Play", some "log"), "log", "Play.log", C8.fnArgs (inClass (K14.top 54) 3), C8.fnBody (inClass (K14.top 54) 3), C8.fnScope (inClass (K14.top 54) 3), [], []⟩,
  ⟨("Play", some "ran"), "ran", "Play.ran", C8.fnArgs (inClass (K14.top 54) 4), C8.fnBody (inClass (K14.top 54) 4), C8.fnScope (inClass (K14.top 54) 4), [], []⟩,
  ⟨("Play", some "back"), "back", "Play.back", C8.fnArgs (inClass (K14.top 54) 5), C8.fnBody (inClass (K14.top 54) 5), C8.fnScope (inClass (K14.top 54) 5), [], []⟩,
  ⟨("Play", some "trying"), "trying", "Play.trying", C8.fnArgs (inClass (K14.top 54) 7), C8.fnBody (inClass (K14.top 54) 7), C8.fnScope (inClass (K14.top 54) 7), [], []⟩,
  ⟨("Web", some "__init__"), "__init__", "Web.__init__", C8.fnArgs (inClass (K14.top 61) 0), C8.fnBody (inClass (K14.top 61) 0), C8.fnScope (inClass (K14.top 61) 0), [], []⟩,
  ⟨("Web", some "begin"), "begin", "Web.begin", C8.fnArgs (inClass (K14.top 61) 1), C8.fnBody (inClass (K14.top 61) 1), C8.fnScope (inClass (K14.top 61) 1), [], []⟩]
def fn : List He.DefD := fn0 ++ fn1 ++ fn2 ++ fn3
def fa0 : List He.Fa := [.glo "is_integer", .glo "is_between", .glo "is_pair", .glo "is_triple", .glo "is_row", .glo "is_lot", .glo "check_number", .glo "divisor", .glo "multiple", .glo "made", .glo "is_fraction", .glo "is_below", .glo "next_whole", .glo "is_threshold", .glo "is_list", .glo "is_width", .glo "parts_of_grain", .glo "in_grains", .glo "is_filling", .glo "check_filling", .glo "check_opening", .glo "drops_in_grains", .glo "runs_at", .glo "flows_of", .glo "opened"]
def fa1 : List He.Fa := [.glo "nets_of", .glo "moved", .glo "running", .glo "are_widths", .glo "is_pipe", .glo "gauge", .glo "_law_source", .glo "_law_mixed", .glo "_law_draw", .glo "_law_pick", .glo "_law_divisor", .glo "_law_made", .glo "_law_added", .glo "_law_same", .glo "_law_in_order", .glo "_law_steps", .glo "_law_flow", .glo "_law_widths", .glo "_law_pipe", .glo "_law_pipes", .glo "_law_water", .glo "_law_filling", .glo "_law_opening", .glo "_law_level", .glo "_law_drop"]
def fa2 : List He.Fa := [.glo "_law_flows", .glo "_law_nets", .glo "_law_behind", .glo "_law_amount", .glo "_law_twin", .glo "_law_model_tick", .glo "_law_model_back", .glo "_law_is_as", .glo "_law_raised", .glo "_law_first_told", .glo "_law_fields", .glo "_law_action", .glo "_law_plan", .glo "_law_plan_due", .glo "law", .glo "Play", .glo "Web", .glo "NoNumber", .glo "BadWeb", .glo "TooLarge", .glo "BadBook", .glo "NoFilling", .glo "NoOpening", .glo "TooMany", .glo "NoSights"]
def fa3 : List He.Fa := [.glo "BadAnswer", .glo "BadOpening", .glo "BadText", .glo "NoLine", .glo "NoName", .glo "NothingDone", .glo "TidesError", .free "isinstance", .free "int", .free "bool", .free "tuple", .free "list", .free "str", .free "len", .free "all", .free "any", .free "abs", .free "sum", .free "max", .free "zip", .free "range", .free "enumerate", .free "sorted", .free "super", .free "ValueError"]
def fa4 : List He.Fa := [.int "MOST_THRESHOLDS" 6, .int "MOST_TOP" 1000000, .int "MOST_BOTTOM" 144, .int "MOST_WIDTH" 12, .int "MOST_VESSELS" 12, .int "MOST_PIPES" 36, .cls "Play", .mkr "Play", .cls "Web", .mkr "Web", .meth "Play" "__init__", .meth "Play" "now", .meth "Play" "tick", .meth "Play" "log", .meth "Play" "ran", .meth "Play" "back", .meth "Play" "trying", .meth "Web" "__init__", .meth "Web" "begin", .noat "Play" "web", .noat "Play" "begun", .noat "Play" "past", .noat "Web" "widths", .noat "Web" "pipes", .noat "Web" "gauges"]
def fa5 : List He.Fa := [.exm "NoName" "NoName" true, .exm "BadAnswer" "NoName" false, .exm "BadAnswer" "BadAnswer" true, .exm "BadOpening" "NoName" false, .exm "BadOpening" "BadAnswer" false, .exm "BadOpening" "BadOpening" true, .exm "BadText" "NoName" false, .exm "BadText" "BadAnswer" false, .exm "BadText" "BadOpening" false, .exm "BadText" "BadText" true, .exm "TooMany" "NoName" false, .exm "TooMany" "BadAnswer" false, .exm "TooMany" "BadOpening" false, .exm "TooMany" "BadText" false, .exm "TooMany" "TooMany" true, .exm "BadWeb" "NoName" false, .exm "BadWeb" "BadAnswer" false, .exm "BadWeb" "BadOpening" false, .exm "BadWeb" "BadText" false, .exm "BadWeb" "TooMany" false, .exm "BadWeb" "BadWeb" true, .exm "NoSights" "NoName" false, .exm "NoSights" "BadAnswer" false, .exm "NoSights" "BadOpening" false, .exm "NoSights" "BadText" false]
def fa6 : List He.Fa := [.exm "NoSights" "TooMany" false, .exm "NoSights" "BadWeb" false, .exm "NoSights" "NoSights" true, .exm "TooLarge" "NoName" false, .exm "TooLarge" "BadAnswer" false, .exm "TooLarge" "BadOpening" false, .exm "TooLarge" "BadText" false, .exm "TooLarge" "TooMany" false, .exm "TooLarge" "BadWeb" false, .exm "TooLarge" "NoSights" false, .exm "TooLarge" "TooLarge" true, .exm "BadBook" "NoName" false, .exm "BadBook" "BadAnswer" false, .exm "BadBook" "BadOpening" false, .exm "BadBook" "BadText" false, .exm "BadBook" "TooMany" false, .exm "BadBook" "BadWeb" false, .exm "BadBook" "NoSights" false, .exm "BadBook" "TooLarge" false, .exm "BadBook" "BadBook" true, .exm "NoLine" "NoName" false, .exm "NoLine" "BadAnswer" false, .exm "NoLine" "BadOpening" false, .exm "NoLine" "BadText" false, .exm "NoLine" "TooMany" false]
def fa7 : List He.Fa := [.exm "NoLine" "BadWeb" false, .exm "NoLine" "NoSights" false, .exm "NoLine" "TooLarge" false, .exm "NoLine" "BadBook" false, .exm "NoLine" "NoLine" true, .exm "NothingDone" "NoName" false, .exm "NothingDone" "BadAnswer" false, .exm "NothingDone" "BadOpening" false, .exm "NothingDone" "BadText" false, .exm "NothingDone" "TooMany" false, .exm "NothingDone" "BadWeb" false, .exm "NothingDone" "NoSights" false, .exm "NothingDone" "TooLarge" false, .exm "NothingDone" "BadBook" false, .exm "NothingDone" "NoLine" false, .exm "NothingDone" "NothingDone" true, .exm "NoNumber" "NoName" false, .exm "NoNumber" "BadAnswer" false, .exm "NoNumber" "BadOpening" false, .exm "NoNumber" "BadText" false, .exm "NoNumber" "TooMany" false, .exm "NoNumber" "BadWeb" false, .exm "NoNumber" "NoSights" false, .exm "NoNumber" "TooLarge" false, .exm "NoNumber" "BadBook" false]
def fa8 : List He.Fa := [.exm "NoNumber" "NoLine" false, .exm "NoNumber" "NothingDone" false, .exm "NoNumber" "NoNumber" true]
def fa : List He.Fa := fa0 ++ fa1 ++ fa2 ++ fa3 ++ fa4 ++ fa5 ++ fa6 ++ fa7 ++ fa8

/-! ### what of the heap is looked at -/
def vref : Value → List Addr
  | .ref a => [a]
  | _ => []
def dvals (g : Addr → Option Obj) (a : Addr) : List Addr := match g a with
  | some ⟨_, _, .dict es _, _⟩ => es.toList.flatMap fun e => vref e.val
  | _ => []
def parts (g : Addr → Option Obj) (a : Addr) : List Addr := match g a with
  | some ⟨_, _, .func fd, _⟩ => vref fd.code ++ fd.closure.map (·.2)
  | some ⟨_, _, .cls cd, _⟩ => [cd.ns]
  | _ => []
def held {α : Type} : List Addr → (List Addr → α) → α
  | [], k => k []
  | a :: r, k => HandSHeadRun.frNat a fun b => held r fun q => k (b :: q)
theorem held_eq {α : Type} : ∀ (l : List Addr) (k : List Addr → α), held l k = k l
  | [], _ => rfl
  | a :: r, k => by
    show HandSHeadRun.frNat a (fun b => held r fun q => k (b :: q)) = _
    rw [HandSHeadRun.frNat_eq, held_eq r]
/-- the module's names' objects, their code, their classes' dicts, methods -/
def seen {α : Type} (g : Addr → Option Obj) (k : List Addr → α) : α :=
  held (dvals g mainGlobals) fun l1 => held (l1.flatMap (parts g)) fun l2 => held (l2.flatMap (dvals g)) fun l3 => held (l3.flatMap (parts g)) fun l4 => k (mainGlobals :: cStatics :: (l1 ++ (l2 ++ (l3 ++ l4))))
theorem seen_eq {α : Type} (g : Addr → Option Obj) : ∃ as, ∀ k : List Addr → α, seen g k = k as := by
  refine ⟨mainGlobals :: cStatics :: (dvals g mainGlobals ++ ((dvals g mainGlobals).flatMap (parts g) ++ (((dvals g mainGlobals).flatMap (parts g)).flatMap (dvals g) ++ (((dvals g mainGlobals).flatMap (parts g)).flatMap (dvals g)).flatMap (parts g)))), fun k => ?_⟩
  unfold seen
  rw [held_eq, held_eq, held_eq, held_eq]
/-! ### an own exception class with its __init__ -/
def mainFile : Str := PySem.Challenge.pw_twotides_k14_whole_tries_put_back.main.file
structure ExD where
  name : Str
  st : Stmt
  fs : List Str
abbrev ExW : Type := Option (Str × Str × Arguments × FuncBody × Scope × Addr × List Str × Addr)
def fI (K : PySem.W.Frag) (x : Str) : Addr := He.ma K (He.ga K x) "__init__"
def exW (K : PySem.W.Frag) (d : ExD) : ExW := match K.lookup (fI K d.name) with
  | some ⟨_, _, .func fd, _⟩ => some (fd.name, fd.qualname, fd.params, fd.body, fd.scope, fd.globals, fd.closure.map (·.1), fd.builtins)
  | _ => none
def ExD.val (d : ExD) : ExW := some ("__init__", d.name ++ ".__init__", C8.fnArgs d.st, .stmts (C8.fnBody d.st), C8.fnScope d.st, mainGlobals, ["__class__"], builtinsNs)
def exShape (K : PySem.W.Frag) (C : Addr) : Bool := match K.lookup C with
  | some ⟨.type "type", _, .cls cd, sl⟩ => (match cd.mro, sl.toList with
    | .ref C' :: bm, [_, _, _, _, some (.builtin n), _] => decide (C' = C) && (decide (n = "ValueError.__new__") && (!cd.hasDel && (cd.hasDict && PySem.HandSPX.refsVE bm)))
    | _, _ => false)
  | _ => false
def cellB (K : PySem.W.Frag) (C cc : Addr) : Bool := match K.lookup cc with
  | some ⟨_, _, .cell (some (.ref D)), _⟩ => decide (D = C)
  | _ => false
def fileB (K : PySem.W.Frag) (c : Addr) : Bool := match K.lookup c with
  | some ⟨_, _, .fields vs, _⟩ => (match (vs[2]? : Option Value) with
    | some (.str file _) => decide (file = mainFile)
    | _ => false)
  | _ => false
def exFn (K : PySem.W.Frag) (d : ExD) : Bool := match K.lookup (fI K d.name) with
  | some ⟨_, _, .func fd, _⟩ => PySem.W.codeIn K fd.code (d.name ++ ".__init__") && ((match fd.defaults, fd.kwdefaults with
      | .none, .none => true
      | _, _ => false) && ((match fd.closure with
      | [(_, cc)] => cellB K (He.ga K d.name) cc
      | _ => false) && (match fd.code with
      | .ref c => fileB K c
      | _ => false)))
  | _ => false
def ExD.ok (K : PySem.W.Frag) (d : ExD) : Bool :=
  exShape K (He.ga K d.name) && (He.eqO (PySem.W.findIn K (.ref (He.ga K d.name)) "__setattr__") (some (some (.builtin "object.__setattr__"))) && (decide (PySem.W.subIn K (.ref (He.ga K d.name)) (.type "BaseException") = some true) &&
    (decide (PySem.W.subIn K (.ref (He.ga K d.name)) (.type "ValueError") = some true) && (decide (PySem.W.typeIn K (.ref (He.ga K d.name)) = some (.type "type")) && (PySem.W.keepIn K (.ref (He.ga K d.name)) && (xfB K (He.ga K d.name) &&
      (d.fs.all (fun f => He.eqO (PySem.W.findIn K (.ref (He.ga K d.name)) f) (some none)) && (He.eqO (PySem.W.findIn K (.ref (He.ga K d.name)) "__init__") (some (some (.ref (fI K d.name)))) && (decide (PySem.W.typeIn K (.ref (fI K d.name)) = some (.type "function")) &&
        (He.eqO (PySem.W.ks_superIn K (He.ga K d.name) (He.ga K d.name) "__init__") (some (some (.builtin "ValueError.__init__"))) && (decide (PySem.W.mroIn K (He.ga K d.name) (.ref (He.ga K d.name)) = some true) && exFn K d)))))))))))
/-- what is known of the class: of the making, of its fields, of its __init__ -/
structure ExT (K : PySem.W.Frag) (d : ExD) : Prop where
  oex : OexC K (He.ga K d.name)
  xf : XfC K (He.ga K d.name)
  fld : ∀ f ∈ d.fs, PySem.W.findIn K (.ref (He.ga K d.name)) f = some none
  ini : PySem.W.findIn K (.ref (He.ga K d.name)) "__init__" = some (some (.ref (fI K d.name)))
  tyI : PySem.W.typeIn K (.ref (fI K d.name)) = some (.type "function")
  sup : PySem.W.ks_superIn K (He.ga K d.name) (He.ga K d.name) "__init__" = some (some (.builtin "ValueError.__init__"))
  mro : PySem.W.mroIn K (He.ga K d.name) (.ref (He.ga K d.name)) = some true
  sub : PySem.W.subIn K (.ref (He.ga K d.name)) (.type "ValueError") = some true
  fn : ∃ (oc : Value) (od : Option Addr) (osl : Array (Option Value)) (cc c : Addr) (doc pm ct : Value) (an : Option Addr) (ccl : Value) (cdd : Option Addr) (csl : Array (Option Value)) (kcl : Value) (kdd : Option Addr) (ksl : Array (Option Value)) (vs : Array Value) (tf : Tok),
    K.lookup (fI K d.name) = some ⟨oc, od, .func (PySem.W.fnX "__init__" (d.name ++ ".__init__") (C8.fnArgs d.st) (C8.fnBody d.st) (C8.fnScope d.st) [("__class__", cc)] .none .none doc pm an (.ref c) ct), osl⟩ ∧ PySem.W.codeIn K (.ref c) (d.name ++ ".__init__") = true ∧
      K.lookup cc = some ⟨ccl, cdd, .cell (some (.ref (He.ga K d.name))), csl⟩ ∧ K.lookup c = some ⟨kcl, kdd, .fields vs, ksl⟩ ∧ vs[2]? = some (.str mainFile tf)
theorem cellB_ok {K : PySem.W.Frag} {C cc : Addr} (h : cellB K C cc = true) : ∃ a b c, K.lookup cc = some ⟨a, b, .cell (some (.ref C)), c⟩ := by
  unfold cellB at h
  split at h
  · rename_i ho
    exact ⟨_, _, _, by rw [ho, of_decide_eq_true h]⟩
  · cases h
theorem fileB_ok {K : PySem.W.Frag} {c : Addr} (h : fileB K c = true) : ∃ a b d vs tf, K.lookup c = some ⟨a, b, .fields vs, d⟩ ∧ vs[2]? = some (.str mainFile tf) := by
  unfold fileB at h
  split at h
  · rename_i ho
    split at h
    · rename_i e
      exact ⟨_, _, _, _, _, ho, by rw [e, of_decide_eq_true h]⟩
    · cases h
  · cases h
theorem shape_ok {K : PySem.W.Frag} {C : Addr} (q : exShape K C = true) : ∃ nm q N bs bm sn sub ab col dd k0 k1 k2 k3 k5, K.lookup C = some (excClassObj nm q C N bs bm true sn sub ab col dd k0 k1 k2 k3 k5 "ValueError.__new__") ∧ PySem.HandSPX.refsVE bm = true := by
  unfold exShape at q
  split at q
  · rename_i dd cd sl ho
    split at q
    · rename_i C' bm k0 k1 k2 k3 n k5 hm hs
      obtain ⟨q1, q⟩ := He.ba q
      obtain ⟨q2, q⟩ := He.ba q
      obtain ⟨q3, q⟩ := He.ba q
      obtain ⟨q4, q5⟩ := He.ba q
      have e1 := of_decide_eq_true q1
      have e2 := of_decide_eq_true q2
      have e3 : cd.hasDel = false := by simpa using q3
      obtain ⟨nm, bs, mro, ns, qn, hd, sn, sub, ab, col, del⟩ := cd
      obtain ⟨l⟩ := sl
      dsimp only at hm hs e3 q4
      subst hm hs e1 e2 e3 q4
      exact ⟨nm, qn, ns, bs, bm, sn, sub, ab, col, dd, k0, k1, k2, k3, k5, ho, q5⟩
    · cases q
  · cases q
theorem ExD.tell {K : PySem.W.Frag} {d : ExD} (e : exW K d = d.val) (c : d.ok K = true) : ExT K d := by
  obtain ⟨h1, c⟩ := He.ba c
  obtain ⟨h2, c⟩ := He.ba c
  obtain ⟨h3, c⟩ := He.ba c
  obtain ⟨h4, c⟩ := He.ba c
  obtain ⟨h5, c⟩ := He.ba c
  obtain ⟨h6, c⟩ := He.ba c
  obtain ⟨h7, c⟩ := He.ba c
  obtain ⟨h8, c⟩ := He.ba c
  obtain ⟨h9, c⟩ := He.ba c
  obtain ⟨h10, c⟩ := He.ba c
  obtain ⟨h11, c⟩ := He.ba c
  obtain ⟨h12, c⟩ := He.ba c
  refine ⟨⟨shape_ok h1, He.eqO_ok h2, of_decide_eq_true h3, of_decide_eq_true h5, h6⟩, xfB_ok h7, fun f hf => He.eqO_ok (List.all_eq_true.mp h8 f hf), He.eqO_ok h9, of_decide_eq_true h10, He.eqO_ok h11, of_decide_eq_true h12, of_decide_eq_true h4, ?_⟩
  unfold exFn at c
  unfold exW at e
  cases q : K.lookup (fI K d.name) with
  | none =>
    rw [q] at c
    cases c
  | some o =>
    obtain ⟨oc, od, dt, osl⟩ := o
    rw [q] at c e
    cases dt with
    | func fd =>
      obtain ⟨n1, n2, n3, n4, n5, n6, n7, n8, n9, n10, n11, n12, n13, n14, n15⟩ := fd
      have e2 : (some (n1, n2, n3, n4, n5, n6, n7.map (·.1), n15) : ExW) = d.val := e
      unfold ExD.val at e2
      simp only [Option.some.injEq, Prod.mk.injEq] at e2
      obtain ⟨i1, i2, i3, i4, i5, i6, i7, i8⟩ := e2
      subst i1 i2 i3 i4 i5 i6 i8
      obtain ⟨k1, c⟩ := He.ba c
      obtain ⟨k2, c⟩ := He.ba c
      obtain ⟨k3, k4⟩ := He.ba c
      dsimp only at k1 k2 k3 k4
      split at k2
      · split at k3
        · rename_i y cc x3 x4
          split at k4
          · rename_i c0
            obtain ⟨a1, a2, a3, l1⟩ := cellB_ok k3
            obtain ⟨b1, b2, b3, vs, tf, l2, l3⟩ := fileB_ok k4
            have ey : y = "__class__" := by simpa using i7
            subst ey
            exact ⟨oc, od, osl, cc, c0, n10, n11, n14, n12, a1, a2, a3, b1, b2, b3, vs, tf, rfl, k1, l1, l2, l3⟩
          · cases k4
        · cases k3
      · cases k2
    | _ => cases c
def exs : List ExD := [⟨"NoNumber", inClass (K14.top 3) 0, []⟩, ⟨"BadWeb", inClass (K14.top 4) 0, ["part"]⟩, ⟨"TooLarge", inClass (K14.top 5) 0, ["most"]⟩, ⟨"BadBook", inClass (K14.top 6) 0, ["part"]⟩, ⟨"NoFilling", inClass (K14.top 7) 0, []⟩, ⟨"NoOpening", inClass (K14.top 8) 0, []⟩, ⟨"TooMany", inClass (K14.top 9) 0, ["most"]⟩, ⟨"NoSights", inClass (K14.top 10) 0, ["index"]⟩, ⟨"BadAnswer", inClass (K14.top 11) 0, ["one", "other"]⟩, ⟨"BadOpening", inClass (K14.top 12) 0, ["filling"]⟩, ⟨"BadText", inClass (K14.top 13) 0, ["line"]⟩, ⟨"NoLine", inClass (K14.top 14) 0, []⟩, ⟨"NoName", inClass (K14.top 15) 0, ["name"]⟩, ⟨"NothingDone", inClass (K14.top 16) 0, []⟩]

/-! ### the Hook -/
def tf : List He.Defn := [("law", none), ("_law_action", none)]
abbrev R : PySem.W.OpenRow := PySem.W.OpenLaw.row PySem.Challenge.rw_twotides_k14_whole_tries_put_back
abbrev Al : Type := (He.AlD × Bool) × List ExW
/-- the two tables are two -/
def neB (K : PySem.W.Frag) : Bool := !decide ((He.cT K ("law", none)).2 = (He.cT K ("_law_action", none)).2)
def obsK (g : Addr → Option Obj) (K : PySem.W.Frag) : Al := ((He.obsD fa fn K, exs.all (fun d => d.ok K) && (He.eqO (PySem.W.nsIn K cStatics "thirdparty.any") (some none) && (He.tabsB g tf K && neB K))), exs.map (exW K))
def obsQ (g : Addr → Option Obj) : Al := seen g fun as => obsK g (He.frT g as)
def valQ : Al := ((He.valD fn, true), exs.map ExD.val)
structure Says (h : Heap) (K : PySem.W.Frag) : Prop where
  d : He.SaysD fa fn K
  ex : ∀ d ∈ exs, ExT K d
  third : PySem.W.nsIn K cStatics "thirdparty.any" = some none
  hd : ∀ p ∈ tf, PySem.W.codeHdIn K (He.cT K p).1 (He.cT K p).2 = true
  out : ∀ p ∈ tf, K.lookup (He.cT K p).2 = none
  empty : ∀ p ∈ tf, h.get? (He.cT K p).2 = some { cls := .none, data := .fields #[] }
  ne : (He.cT K ("law", none)).2 ≠ (He.cT K ("_law_action", none)).2
theorem all_map_eq {α β : Type} {f g : α → β} : ∀ {l : List α}, l.map f = l.map g → ∀ a ∈ l, f a = g a
  | [], _, _, h => by cases h
  | b :: r, e, a, h => by
    have e1 : f b = g b ∧ r.map f = r.map g := by simpa using e
    rcases List.mem_cons.mp h with q | q
    · rw [q]
      exact e1.1
    · exact all_map_eq e1.2 a q
theorem says_of {h : Heap} (e : obsQ h.get? = valQ) : ∃ K : PySem.W.Frag, K.In h ∧ Says h K := by
  obtain ⟨as, ha⟩ := seen_eq (α := Al) h.get?
  have e' : obsK h.get? (He.frT h.get? as) = valQ := (ha _).symm.trans e
  refine ⟨He.frT h.get? as, He.frT_in, ?_⟩
  have e1 : He.SaysD fa fn (He.frT h.get? as) := congrArg (fun z : Al => z.1.1) e'
  have e2 : (exs.all (fun d => d.ok (He.frT h.get? as)) && (He.eqO (PySem.W.nsIn (He.frT h.get? as) cStatics "thirdparty.any") (some none) && (He.tabsB h.get? tf (He.frT h.get? as) && neB (He.frT h.get? as)))) = true := congrArg (fun z : Al => z.1.2) e'
  have e3 : exs.map (exW (He.frT h.get? as)) = exs.map ExD.val := congrArg (fun z : Al => z.2) e'
  obtain ⟨h1, e2⟩ := He.ba e2
  obtain ⟨h2, e3'⟩ := He.ba e2
  obtain ⟨h3, h4⟩ := He.ba e3'
  have key : ∀ p ∈ tf, PySem.W.codeHdIn (He.frT h.get? as) (He.cT (He.frT h.get? as) p).1 (He.cT (He.frT h.get? as) p).2 = true ∧ ∃ o, h.get? (He.cT (He.frT h.get? as) p).2 = some o ∧ He.emptyTab o = true := fun p hp => by
    obtain ⟨k1, k2⟩ := He.ba (List.all_eq_true.mp h3 p hp)
    refine ⟨k1, ?_⟩
    cases q : h.get? (He.cT (He.frT h.get? as) p).2 with
    | none =>
      rw [q] at k2
      cases k2
    | some o =>
      rw [q] at k2
      exact ⟨o, rfl, k2⟩
  refine ⟨e1, fun d hd => ExD.tell (all_map_eq e3 d hd) (List.all_eq_true.mp h1 d hd), He.eqO_ok h2, fun p hp => (key p hp).1, fun p hp => ?_, fun p hp => ?_, fun z => ?_⟩
  · obtain ⟨_, o, q, z⟩ := key p hp
    exact He.frT_none q z
  · obtain ⟨_, o, q, z⟩ := key p hp
    rw [q, He.emptyTab_eq z]
  · unfold neB at h4
    rw [decide_eq_true z] at h4
    cases h4
def ob (s : PySem.W.SharedT) : Al := obsQ (HandSHeadRun.getT s)
abbrev hk : PySem.W.Hook where
  α := Al
  obs := fun s => obsQ s.heap.get?
  val := fun _ => valQ
  says := fun _ h => ∃ K : PySem.W.Frag, K.In h ∧ Says h K
  of := fun _ _ e => says_of e
  keeps := fun _ _ _ ⟨K, hK, c⟩ k => ⟨K, PySem.W.Frag.In.keeps hK k, ⟨c.d, c.ex, c.third, c.hd, c.out, fun p hp => k _ _ (c.empty p hp), c.ne⟩⟩
theorem ob_eq (s : PySem.W.SharedT) : ob s = hk.obs s.abs := congrArg obsQ (funext (HandSHeadRun.getT_eq s))
theorem run (w : World) : HandSHeadRun.RunEq R (PySem.W.view R.prog [96]) hk ob 8000 names w := by
  intro os
  kernel_rfl
end K14H
end
section
/-! 2. What is told of the names; the checks. -/
namespace K14
open PySem PySem.Spec PyProof.Rows L2
structure Txt (K : PySem.W.Frag) (mg : Str → Option Value) : Prop where
  d_is_integer : DefAt K mg "is_integer" (top 18) ["thing"]
  d_is_between : DefAt K mg "is_between" (top 19) ["thing", "least", "most"]
  d_is_pair : DefAt K mg "is_pair" (top 20) ["thing"]
  d_is_triple : DefAt K mg "is_triple" (top 21) ["thing"]
  d_is_row : DefAt K mg "is_row" (top 22) ["thing", "many"]
  d_is_lot : DefAt K mg "is_lot" (top 23) ["thing", "many"]
  d_check_number : DefAt K mg "check_number" (top 24) ["thing", "least", "most"]
  d_divisor : DefAt K mg "divisor" (top 26) ["one", "other"]
  d_multiple : DefAt K mg "multiple" (top 27) ["one", "other"]
  d_made : DefAt K mg "made" (top 28) ["top", "bottom"]
  d_is_fraction : DefAt K mg "is_fraction" (top 29) ["thing"]
  d_is_below : DefAt K mg "is_below" (top 30) ["one", "other"]
  d_next_whole : DefAt K mg "next_whole" (top 31) ["one"]
  d_is_threshold : DefAt K mg "is_threshold" (top 37) ["thing"]
  d_is_list : DefAt K mg "is_list" (top 38) ["thing"]
  d_is_width : DefAt K mg "is_width" (top 39) ["thing"]
  d_parts_of_grain : DefAt K mg "parts_of_grain" (top 40) ["width", "other"]
  d_in_grains : DefAt K mg "in_grains" (top 41) ["steps", "grains"]
  d_is_filling : DefAt K mg "is_filling" (top 43) ["web", "thing"]
  d_check_filling : DefAt K mg "check_filling" (top 44) ["web", "thing"]
  d_check_opening : DefAt K mg "check_opening" (top 45) ["web", "thing"]
  d_drops_in_grains : DefAt K mg "drops_in_grains" (top 46) ["web", "filling"]
  d_runs_at : DefAt K mg "runs_at" (top 47) ["units", "number"]
  d_flows_of : DefAt K mg "flows_of" (top 48) ["web", "filling"]
  d_opened : DefAt K mg "opened" (top 49) ["numbers", "opening"]
  d_nets_of : DefAt K mg "nets_of" (top 50) ["web", "numbers"]
  d_moved : DefAt K mg "moved" (top 51) ["web", "filling", "numbers"]
  d_running : DefAt K mg "running" (top 52) ["web", "filling", "opening"]
  d_are_widths : DefAt K mg "are_widths" (top 58) ["thing"]
  d_is_pipe : DefAt K mg "is_pipe" (top 59) ["thing", "many"]
  d_gauge : DefAt K mg "gauge" (top 60) ["widths", "pipe"]
  d__law_source : DefAt K mg "_law_source" (top 63) ["_law_script"]
  d__law_mixed : DefAt K mg "_law_mixed" (top 64) ["_law_number", "_law_turn"]
  d__law_draw : DefAt K mg "_law_draw" (top 65) ["_law_source_here", "_law_many"]
  d__law_pick : DefAt K mg "_law_pick" (top 66) ["_law_source_here", "_law_row"]
  d__law_divisor : DefAt K mg "_law_divisor" (top 67) ["_law_one", "_law_other"]
  d__law_made : DefAt K mg "_law_made" (top 68) ["_law_top", "_law_bottom"]
  d__law_added : DefAt K mg "_law_added" (top 69) ["_law_one", "_law_other"]
  d__law_same : DefAt K mg "_law_same" (top 70) ["_law_actual", "_law_expected"]
  d__law_in_order : DefAt K mg "_law_in_order" (top 71) ["_law_steps_here"]
  d__law_steps : DefAt K mg "_law_steps" (top 72) ["_law_source_here", "_law_most", "_law_wide"]
  d__law_flow : DefAt K mg "_law_flow" (top 73) ["_law_steps_here", "_law_drop_here"]
  d__law_widths : DefAt K mg "_law_widths" (top 74) ["_law_source_here", "_law_many", "_law_seas"]
  d__law_pipe : DefAt K mg "_law_pipe" (top 75) ["_law_source_here", "_law_vessels", "_law_most", "_law_wide"]
  d__law_pipes : DefAt K mg "_law_pipes" (top 76) ["_law_source_here", "_law_vessels", "_law_many", "_law_most", "_law_wide"]
  d__law_water : DefAt K mg "_law_water" (top 77) ["_law_source_here", "_law_high"]
  d__law_filling : DefAt K mg "_law_filling" (top 78) ["_law_source_here", "_law_widths_here", "_law_high", "_law_wide"]
  d__law_opening : DefAt K mg "_law_opening" (top 79) ["_law_source_here", "_law_many"]
  d__law_level : DefAt K mg "_law_level" (top 80) ["_law_water_here", "_law_width"]
  d__law_drop : DefAt K mg "_law_drop" (top 81) ["_law_widths_here", "_law_pipe_here", "_law_filling_here"]
  d__law_flows : DefAt K mg "_law_flows" (top 82) ["_law_widths_here", "_law_pipes_here", "_law_filling_here", "_law_opening_here"]
  d__law_nets : DefAt K mg "_law_nets" (top 83) ["_law_vessels", "_law_pipes_here", "_law_numbers"]
  d__law_behind : DefAt K mg "_law_behind" (top 84) ["_law_widths_here", "_law_filling_here", "_law_lost"]
  d__law_amount : DefAt K mg "_law_amount" (top 85) ["_law_numbers"]
  d__law_twin : DefAt K mg "_law_twin" (top 86) ["_law_model"]
  d__law_model_tick : DefAt K mg "_law_model_tick" (top 87) ["_law_widths_here", "_law_pipes_here", "_law_model", "_law_opening_here"]
  d__law_model_back : DefAt K mg "_law_model_back" (top 88) ["_law_model", "_law_many"]
  d__law_is_as : DefAt K mg "_law_is_as" (top 89) ["_law_play", "_law_model"]
  d__law_raised : DefAt K mg "_law_raised" (top 90) ["_law_kind", "_law_part"]
  d__law_first_told : DefAt K mg "_law_first_told" (top 91) ["_law_action_here"]
  d__law_fields : DefAt K mg "_law_fields" (top 92) ["_law_kind", "_law_part"]
  d__law_action : DefAt K mg "_law_action" (top 93) ["_law_outer", "_law_plan_here", "_law_inner", "_law_calls"]
  d__law_plan : DefAt K mg "_law_plan" (top 94) ["_law_source_here", "_law_pipes_here"]
  d__law_plan_due : DefAt K mg "_law_plan_due" (top 95) ["_law_widths_here", "_law_pipes_here", "_law_model", "_law_plan_here", "_law_within"]
  z_isinstance : mg "isinstance" = none
  z_int : mg "int" = none
  z_bool : mg "bool" = none
  z_tuple : mg "tuple" = none
  z_list : mg "list" = none
  z_str : mg "str" = none
  z_len : mg "len" = none
  z_all : mg "all" = none
  z_any : mg "any" = none
  z_abs : mg "abs" = none
  z_sum : mg "sum" = none
  z_max : mg "max" = none
  z_zip : mg "zip" = none
  z_range : mg "range" = none
  z_enumerate : mg "enumerate" = none
  z_sorted : mg "sorted" = none
  z_super : mg "super" = none
  z_ValueError : mg "ValueError" = none
  m_MOST_THRESHOLDS : ∃ u, mg "MOST_THRESHOLDS" = some u ∧ RelV (.int 6) u
  m_MOST_TOP : ∃ u, mg "MOST_TOP" = some u ∧ RelV (.int 1000000) u
  m_MOST_BOTTOM : ∃ u, mg "MOST_BOTTOM" = some u ∧ RelV (.int 144) u
  m_MOST_WIDTH : ∃ u, mg "MOST_WIDTH" = some u ∧ RelV (.int 12) u
  m_MOST_VESSELS : ∃ u, mg "MOST_VESSELS" = some u ∧ RelV (.int 12) u
  m_MOST_PIPES : ∃ u, mg "MOST_PIPES" = some u ∧ RelV (.int 36) u
  c_Play : Cls K (He.ga K "Play")
  g_Play : mg "Play" = some (.ref (He.ga K "Play"))
  k_Play : Mk K (He.ga K "Play") (He.ma K (He.ga K "Play") "__init__")
  e_Play_init : MetAt K (He.ga K "Play") "__init__" "Play.__init__" (inClass (top 54) 0) ["self", "web", "filling"]
  e_Play_now : MetAt K (He.ga K "Play") "now" "Play.now" (inClass (top 54) 1) ["self"]
  e_Play_tick : MetAt K (He.ga K "Play") "tick" "Play.tick" (inClass (top 54) 2) ["self", "opening"]
  e_Play_log : MetAt K (He.ga K "Play") "log" "Play.log" (inClass (top 54) 3) ["self"]
  e_Play_ran : MetAt K (He.ga K "Play") "ran" "Play.ran" (inClass (top 54) 4) ["self"]
  e_Play_back : MetAt K (He.ga K "Play") "back" "Play.back" (inClass (top 54) 5) ["self", "many"]
  e_Play_trying : MetAt K (He.ga K "Play") "trying" "Play.trying" (inClass (top 54) 7) ["self", "action"]
  c_Web : Cls K (He.ga K "Web")
  g_Web : mg "Web" = some (.ref (He.ga K "Web"))
  k_Web : Mk K (He.ga K "Web") (He.ma K (He.ga K "Web") "__init__")
  e_Web_init : MetAt K (He.ga K "Web") "__init__" "Web.__init__" (inClass (top 61) 0) ["self", "widths", "pipes"]
  e_Web_begin : MetAt K (He.ga K "Web") "begin" "Web.begin" (inClass (top 61) 1) ["self", "widths", "pipes"]
  n_Play_web : NoAttr K (He.ga K "Play") "web"
  n_Play_begun : NoAttr K (He.ga K "Play") "begun"
  n_Play_past : NoAttr K (He.ga K "Play") "past"
  n_Web_widths : NoAttr K (He.ga K "Web") "widths"
  n_Web_pipes : NoAttr K (He.ga K "Web") "pipes"
  n_Web_gauges : NoAttr K (He.ga K "Web") "gauges"
  g_NoName : mg "NoName" = some (.ref (He.ga K "NoName"))
  g_BadAnswer : mg "BadAnswer" = some (.ref (He.ga K "BadAnswer"))
  g_BadOpening : mg "BadOpening" = some (.ref (He.ga K "BadOpening"))
  g_BadText : mg "BadText" = some (.ref (He.ga K "BadText"))
  g_TooMany : mg "TooMany" = some (.ref (He.ga K "TooMany"))
  g_BadWeb : mg "BadWeb" = some (.ref (He.ga K "BadWeb"))
  g_NoSights : mg "NoSights" = some (.ref (He.ga K "NoSights"))
  g_TooLarge : mg "TooLarge" = some (.ref (He.ga K "TooLarge"))
  g_BadBook : mg "BadBook" = some (.ref (He.ga K "BadBook"))
  g_NoLine : mg "NoLine" = some (.ref (He.ga K "NoLine"))
  g_NothingDone : mg "NothingDone" = some (.ref (He.ga K "NothingDone"))
  g_NoNumber : mg "NoNumber" = some (.ref (He.ga K "NoNumber"))
  x_NoName_NoName : PySem.W.exmOne K (.ref (He.ga K "NoName")) (.ref (He.ga K "NoName")) = some true
  x_BadAnswer_NoName : PySem.W.exmOne K (.ref (He.ga K "BadAnswer")) (.ref (He.ga K "NoName")) = some false
  x_BadAnswer_BadAnswer : PySem.W.exmOne K (.ref (He.ga K "BadAnswer")) (.ref (He.ga K "BadAnswer")) = some true
  x_BadOpening_NoName : PySem.W.exmOne K (.ref (He.ga K "BadOpening")) (.ref (He.ga K "NoName")) = some false
  x_BadOpening_BadAnswer : PySem.W.exmOne K (.ref (He.ga K "BadOpening")) (.ref (He.ga K "BadAnswer")) = some false
  x_BadOpening_BadOpening : PySem.W.exmOne K (.ref (He.ga K "BadOpening")) (.ref (He.ga K "BadOpening")) = some true
  x_BadText_NoName : PySem.W.exmOne K (.ref (He.ga K "BadText")) (.ref (He.ga K "NoName")) = some false
  x_BadText_BadAnswer : PySem.W.exmOne K (.ref (He.ga K "BadText")) (.ref (He.ga K "BadAnswer")) = some false
  x_BadText_BadOpening : PySem.W.exmOne K (.ref (He.ga K "BadText")) (.ref (He.ga K "BadOpening")) = some false
  x_BadText_BadText : PySem.W.exmOne K (.ref (He.ga K "BadText")) (.ref (He.ga K "BadText")) = some true
  x_TooMany_NoName : PySem.W.exmOne K (.ref (He.ga K "TooMany")) (.ref (He.ga K "NoName")) = some false
  x_TooMany_BadAnswer : PySem.W.exmOne K (.ref (He.ga K "TooMany")) (.ref (He.ga K "BadAnswer")) = some false
  x_TooMany_BadOpening : PySem.W.exmOne K (.ref (He.ga K "TooMany")) (.ref (He.ga K "BadOpening")) = some false
  x_TooMany_BadText : PySem.W.exmOne K (.ref (He.ga K "TooMany")) (.ref (He.ga K "BadText")) = some false
  x_TooMany_TooMany : PySem.W.exmOne K (.ref (He.ga K "TooMany")) (.ref (He.ga K "TooMany")) = some true
  x_BadWeb_NoName : PySem.W.exmOne K (.ref (He.ga K "BadWeb")) (.ref (He.ga K "NoName")) = some false
  x_BadWeb_BadAnswer : PySem.W.exmOne K (.ref (He.ga K "BadWeb")) (.ref (He.ga K "BadAnswer")) = some false
  x_BadWeb_BadOpening : PySem.W.exmOne K (.ref (He.ga K "BadWeb")) (.ref (He.ga K "BadOpening")) = some false
  x_BadWeb_BadText : PySem.W.exmOne K (.ref (He.ga K "BadWeb")) (.ref (He.ga K "BadText")) = some false
  x_BadWeb_TooMany : PySem.W.exmOne K (.ref (He.ga K "BadWeb")) (.ref (He.ga K "TooMany")) = some false
  x_BadWeb_BadWeb : PySem.W.exmOne K (.ref (He.ga K "BadWeb")) (.ref (He.ga K "BadWeb")) = some true
  x_NoSights_NoName : PySem.W.exmOne K (.ref (He.ga K "NoSights")) (.ref (He.ga K "NoName")) = some false
  x_NoSights_BadAnswer : PySem.W.exmOne K (.ref (He.ga K "NoSights")) (.ref (He.ga K "BadAnswer")) = some false
  x_NoSights_BadOpening : PySem.W.exmOne K (.ref (He.ga K "NoSights")) (.ref (He.ga K "BadOpening")) = some false
  x_NoSights_BadText : PySem.W.exmOne K (.ref (He.ga K "NoSights")) (.ref (He.ga K "BadText")) = some false
  x_NoSights_TooMany : PySem.W.exmOne K (.ref (He.ga K "NoSights")) (.ref (He.ga K "TooMany")) = some false
  x_NoSights_BadWeb : PySem.W.exmOne K (.ref (He.ga K "NoSights")) (.ref (He.ga K "BadWeb")) = some false
  x_NoSights_NoSights : PySem.W.exmOne K (.ref (He.ga K "NoSights")) (.ref (He.ga K "NoSights")) = some true
  x_TooLarge_NoName : PySem.W.exmOne K (.ref (He.ga K "TooLarge")) (.ref (He.ga K "NoName")) = some false
  x_TooLarge_BadAnswer : PySem.W.exmOne K (.ref (He.ga K "TooLarge")) (.ref (He.ga K "BadAnswer")) = some false
  x_TooLarge_BadOpening : PySem.W.exmOne K (.ref (He.ga K "TooLarge")) (.ref (He.ga K "BadOpening")) = some false
  x_TooLarge_BadText : PySem.W.exmOne K (.ref (He.ga K "TooLarge")) (.ref (He.ga K "BadText")) = some false
  x_TooLarge_TooMany : PySem.W.exmOne K (.ref (He.ga K "TooLarge")) (.ref (He.ga K "TooMany")) = some false
  x_TooLarge_BadWeb : PySem.W.exmOne K (.ref (He.ga K "TooLarge")) (.ref (He.ga K "BadWeb")) = some false
  x_TooLarge_NoSights : PySem.W.exmOne K (.ref (He.ga K "TooLarge")) (.ref (He.ga K "NoSights")) = some false
  x_TooLarge_TooLarge : PySem.W.exmOne K (.ref (He.ga K "TooLarge")) (.ref (He.ga K "TooLarge")) = some true
  x_BadBook_NoName : PySem.W.exmOne K (.ref (He.ga K "BadBook")) (.ref (He.ga K "NoName")) = some false
  x_BadBook_BadAnswer : PySem.W.exmOne K (.ref (He.ga K "BadBook")) (.ref (He.ga K "BadAnswer")) = some false
  x_BadBook_BadOpening : PySem.W.exmOne K (.ref (He.ga K "BadBook")) (.ref (He.ga K "BadOpening")) = some false
  x_BadBook_BadText : PySem.W.exmOne K (.ref (He.ga K "BadBook")) (.ref (He.ga K "BadText")) = some false
  x_BadBook_TooMany : PySem.W.exmOne K (.ref (He.ga K "BadBook")) (.ref (He.ga K "TooMany")) = some false
  x_BadBook_BadWeb : PySem.W.exmOne K (.ref (He.ga K "BadBook")) (.ref (He.ga K "BadWeb")) = some false
  x_BadBook_NoSights : PySem.W.exmOne K (.ref (He.ga K "BadBook")) (.ref (He.ga K "NoSights")) = some false
  x_BadBook_TooLarge : PySem.W.exmOne K (.ref (He.ga K "BadBook")) (.ref (He.ga K "TooLarge")) = some false
  x_BadBook_BadBook : PySem.W.exmOne K (.ref (He.ga K "BadBook")) (.ref (He.ga K "BadBook")) = some true
  x_NoLine_NoName : PySem.W.exmOne K (.ref (He.ga K "NoLine")) (.ref (He.ga K "NoName")) = some false
  x_NoLine_BadAnswer : PySem.W.exmOne K (.ref (He.ga K "NoLine")) (.ref (He.ga K "BadAnswer")) = some false
  x_NoLine_BadOpening : PySem.W.exmOne K (.ref (He.ga K "NoLine")) (.ref (He.ga K "BadOpening")) = some false
  x_NoLine_BadText : PySem.W.exmOne K (.ref (He.ga K "NoLine")) (.ref (He.ga K "BadText")) = some false
  x_NoLine_TooMany : PySem.W.exmOne K (.ref (He.ga K "NoLine")) (.ref (He.ga K "TooMany")) = some false
  x_NoLine_BadWeb : PySem.W.exmOne K (.ref (He.ga K "NoLine")) (.ref (He.ga K "BadWeb")) = some false
  x_NoLine_NoSights : PySem.W.exmOne K (.ref (He.ga K "NoLine")) (.ref (He.ga K "NoSights")) = some false
  x_NoLine_TooLarge : PySem.W.exmOne K (.ref (He.ga K "NoLine")) (.ref (He.ga K "TooLarge")) = some false
  x_NoLine_BadBook : PySem.W.exmOne K (.ref (He.ga K "NoLine")) (.ref (He.ga K "BadBook")) = some false
  x_NoLine_NoLine : PySem.W.exmOne K (.ref (He.ga K "NoLine")) (.ref (He.ga K "NoLine")) = some true
  x_NothingDone_NoName : PySem.W.exmOne K (.ref (He.ga K "NothingDone")) (.ref (He.ga K "NoName")) = some false
  x_NothingDone_BadAnswer : PySem.W.exmOne K (.ref (He.ga K "NothingDone")) (.ref (He.ga K "BadAnswer")) = some false
  x_NothingDone_BadOpening : PySem.W.exmOne K (.ref (He.ga K "NothingDone")) (.ref (He.ga K "BadOpening")) = some false
  x_NothingDone_BadText : PySem.W.exmOne K (.ref (He.ga K "NothingDone")) (.ref (He.ga K "BadText")) = some false
  x_NothingDone_TooMany : PySem.W.exmOne K (.ref (He.ga K "NothingDone")) (.ref (He.ga K "TooMany")) = some false
  x_NothingDone_BadWeb : PySem.W.exmOne K (.ref (He.ga K "NothingDone")) (.ref (He.ga K "BadWeb")) = some false
  x_NothingDone_NoSights : PySem.W.exmOne K (.ref (He.ga K "NothingDone")) (.ref (He.ga K "NoSights")) = some false
  x_NothingDone_TooLarge : PySem.W.exmOne K (.ref (He.ga K "NothingDone")) (.ref (He.ga K "TooLarge")) = some false
  x_NothingDone_BadBook : PySem.W.exmOne K (.ref (He.ga K "NothingDone")) (.ref (He.ga K "BadBook")) = some false
  x_NothingDone_NoLine : PySem.W.exmOne K (.ref (He.ga K "NothingDone")) (.ref (He.ga K "NoLine")) = some false
  x_NothingDone_NothingDone : PySem.W.exmOne K (.ref (He.ga K "NothingDone")) (.ref (He.ga K "NothingDone")) = some true
  x_NoNumber_NoName : PySem.W.exmOne K (.ref (He.ga K "NoNumber")) (.ref (He.ga K "NoName")) = some false
  x_NoNumber_BadAnswer : PySem.W.exmOne K (.ref (He.ga K "NoNumber")) (.ref (He.ga K "BadAnswer")) = some false
  x_NoNumber_BadOpening : PySem.W.exmOne K (.ref (He.ga K "NoNumber")) (.ref (He.ga K "BadOpening")) = some false
  x_NoNumber_BadText : PySem.W.exmOne K (.ref (He.ga K "NoNumber")) (.ref (He.ga K "BadText")) = some false
  x_NoNumber_TooMany : PySem.W.exmOne K (.ref (He.ga K "NoNumber")) (.ref (He.ga K "TooMany")) = some false
  x_NoNumber_BadWeb : PySem.W.exmOne K (.ref (He.ga K "NoNumber")) (.ref (He.ga K "BadWeb")) = some false
  x_NoNumber_NoSights : PySem.W.exmOne K (.ref (He.ga K "NoNumber")) (.ref (He.ga K "NoSights")) = some false
  x_NoNumber_TooLarge : PySem.W.exmOne K (.ref (He.ga K "NoNumber")) (.ref (He.ga K "TooLarge")) = some false
  x_NoNumber_BadBook : PySem.W.exmOne K (.ref (He.ga K "NoNumber")) (.ref (He.ga K "BadBook")) = some false
  x_NoNumber_NoLine : PySem.W.exmOne K (.ref (He.ga K "NoNumber")) (.ref (He.ga K "NoLine")) = some false
  x_NoNumber_NothingDone : PySem.W.exmOne K (.ref (He.ga K "NoNumber")) (.ref (He.ga K "NothingDone")) = some false
  x_NoNumber_NoNumber : PySem.W.exmOne K (.ref (He.ga K "NoNumber")) (.ref (He.ga K "NoNumber")) = some true
/-- all that was tracked is so still -/
def Ext (H H' : Hp) : Prop := ∀ b o, H b = some o → H' b = some o
theorem Ext.refl (H : Hp) : Ext H H := fun _ _ h => h
theorem Ext.trans {A B C : Hp} (a : Ext A B) (b : Ext B C) : Ext A C := fun x o h => b x o (a x o h)
theorem Ext.new {H : Hp} {a : Addr} {o : HO} (h : H a = none) : Ext H (upd H a o) := fun b u e => by
  rw [upd_ne (ne_of_none e h)]
  exact e
theorem Ext.sqT {K : PySem.W.Frag} {H H' : Hp} {a : Addr} {xs : List V} (e : Ext H H') (h : SqT K H a xs) : SqT K H' a xs := by
  rcases h with h | h
  · refine .inl ?_
    rcases h with h | ⟨o, h⟩
    · exact .inl (e _ _ h)
    · exact .inr ⟨o, e _ _ h⟩
  · exact .inr h
theorem Ext.sqL {K : PySem.W.Frag} {H H' : Hp} {a : Addr} {xs : List V} (e : Ext H H') (h : SqL K H a xs) : SqL K H' a xs := by
  rcases h with h | h
  · refine .inl ?_
    rcases h with h | ⟨o, h⟩
    · exact .inl (e _ _ h)
    · exact .inr ⟨o, e _ _ h⟩
  · exact .inr h
section
variable {P : Program} {w : World} {K : PySem.W.Frag} {mg : Str → Option Value} {base : Heap}
theorem tyT {H : Hp} {a : Addr} {xs : List V} (h : SqT K H a xs) : TyX K H (.ref a) (.type "tuple") := by
  rcases h with (h | ⟨o, h⟩) | ⟨o, its, n, h, hc, _⟩
  · exact .base (.tup h)
  · exact .fTuple h
  · exact .kTuple h hc
/-- a comprehension over a walk: all that was tracked stays, R tells the list by the turn -/
def LcP (H1 : Hp) (D : Addr) (R : Nat → List V → Hp → Prop) (i : Nat) (H : Hp) : Prop := ∃ acc, H D = some (.lst acc) ∧ acc.length = i ∧ Ext H1 H ∧ R i acc H
theorem lcX {J : It} {n : Nat} {G : Hp → Prop} {Y : Nat → Hp → V → Hp → Prop} {g : TG} {tt : TT} {te : TE} {ws : List Nat} {σ : L2.St} {H1 : Hp} {D : Addr} {Qd : Hp → Prop} (w : Walk J n G Y) (hD : H1 D = none) (R : Nat → List V → Hp → Prop)
    (r0 : R 0 [] (upd H1 D (.lst []))) (hG : ∀ H, Ext H1 H → G H)
    (hs : ∀ i x H H' acc, i < n → Ext H1 H → H D = some (.lst acc) → acc.length = i → R i acc H → Y i H x H' → g x (wipe σ ws) H' fun σ2 H2 => wipe σ2 ws = wipe σ ws ∧ tt σ2 H2 fun b H3 =>
      if b = true then te σ2 H3 fun y H4 => ∃ acc, H4 D = some (.lst acc) ∧ acc.length < sizeLine ∧ LcP H1 D R (i + 1) (upd H4 D (.lst (acc ++ [y]))) else LcP H1 D R (i + 1) H3)
    (hd : ∀ H acc, Ext H1 H → H D = some (.lst acc) → acc.length = n → R n acc H → Qd H) :
    ∃ W : Nat → Nat → Hp → Prop, (∃ m, W 0 m (upd H1 D (.lst []))) ∧ ∀ i m H, W i m H →
      (J.stop i H ∧ Qd H) ∨ (J.go i H ∧ ∃ Nx : Hp → Prop, (∀ H', Nx H' → ∃ m', m' < m ∧ W (i + 1) m' H') ∧ ∀ x H', J.yld i H x H' → g x (wipe σ ws) H' fun σ2 H2 => wipe σ2 ws = wipe σ ws ∧ tt σ2 H2 fun b H3 =>
        if b = true then te σ2 H3 fun y H4 => ∃ acc, H4 D = some (.lst acc) ∧ acc.length < sizeLine ∧ Nx (upd H4 D (.lst (acc ++ [y]))) else Nx H3) :=
  lc_it w (LcP H1 D R) ⟨[], upd_same, rfl, Ext.new hD, r0⟩ (fun i H _ h => hG H h.choose_spec.2.2.1) (fun i x H H' hi ⟨acc, h1, h2, h3, h4⟩ y => hs i x H H' acc hi h3 h1 h2 h4 y) fun H ⟨acc, h1, h2, h3, h4⟩ => hd H acc h3 h1 h2 h4
theorem lcFin {H1 H4 : Hp} {D : Addr} {R : Nat → List V → Hp → Prop} {i : Nat} {acc : List V} {y : V} (hD : H1 D = none) (h : H4 D = some (.lst acc)) (hl : acc.length = i) (hi : i < sizeLine) (e : Ext H1 H4) (r : R (i + 1) (acc ++ [y]) (upd H4 D (.lst (acc ++ [y])))) :
    ∃ acc, H4 D = some (.lst acc) ∧ acc.length < sizeLine ∧ LcP H1 D R (i + 1) (upd H4 D (.lst (acc ++ [y]))) :=
  ⟨acc, h, by omega, acc ++ [y], upd_same, by rw [List.length_append, hl]; rfl, fun b o q => by rw [upd_ne (ne_of_none q hD)]; exact e b o q, r⟩
theorem range_get {α β : Type} (l : List α) (f : Nat → β) (g : α → β) (h : ∀ i x, l[i]? = some x → f i = g x) : (List.range l.length).map f = l.map g := by
  apply List.ext_getElem
  · simp
  · intro i h1 h2
    simp only [List.getElem_map, List.getElem_range]
    rw [List.length_map] at h2
    exact h i _ (List.getElem?_eq_getElem h2)
/-- results that are no objects -/
abbrev RFlat (f : Nat → V) : Nat → List V → Hp → Prop := fun i acc _ => acc = (List.range i).map f
theorem rflat {f : Nat → V} {i : Nat} {acc : List V} {y : V} {H : Hp} (r : acc = (List.range i).map f) (hy : y = f i) : RFlat f (i + 1) (acc ++ [y]) H := by
  show acc ++ [y] = _
  rw [List.range_succ, List.map_append, ← r, hy] <;> rfl
/-! is_integer -/
abbrev s_is_integer : Stmt := top 18
abbrev N_is_integer : List Str := ["thing"]
theorem sc_is_integer : FnScope N_is_integer ["thing"] (C8.fnScope s_is_integer) := C8.fnScope_by (by decide +kernel)
def sp_is_integer : Sp := fun vs H Q _ => ∃ i : Int, vs = [.int i] ∧ Q (.bl true) H
theorem c_is_integer (T : Txt K mg) : C8.Cal P w K mg base 1 "is_integer" sp_is_integer [] := by
  refine calD T.d_is_integer sc_is_integer (fun vs H Q E ⟨i, e, _⟩ => by rw [e]; rfl) fun f cdv A outer s H vs Q E hr h => ⟨_, (pss_one (ps_ret (pe_and (pe_callB call_isi (by rfl) T.z_isinstance (by decide +kernel) (pa_cons (pv 0) (pa_cons (pe_bltn (v := .ty "int") (by rfl) T.z_int (by decide +kernel) rfl) pa_nil))) (pe_one (pe_not (pe_callB call_isi (by rfl) T.z_isinstance (by decide +kernel) (pa_cons (pv 0) (pa_cons (pe_bltn (v := .ty "bool") (by rfl) T.z_bool (by decide +kernel) rfl) pa_nil)))))))), ?_⟩
  obtain ⟨i, rfl, q⟩ := h
  exact ⟨_, rfl, _, _, _, _, true, rfl, ClsV.ty _, TyX.base (TyOf.int _), kit_ty (by decide +kernel), _, rfl, _, rfl, _, _, _, _, false, rfl, ClsV.ty _, TyX.base (TyOf.int _), kit_ty (by decide +kernel), _, rfl, q⟩
abbrev s_is_between : Stmt := top 19
abbrev N_is_between : List Str := ["thing", "least", "most"]
theorem sc_is_between : FnScope N_is_between ["thing", "least", "most"] (C8.fnScope s_is_between) := C8.fnScope_by (by decide +kernel)
def sp_is_between : Sp := fun vs H Q _ => ∃ i lo hi : Int, vs = [.int i, .int lo, .int hi] ∧ Q (.bl (decide (lo ≤ i ∧ i ≤ hi))) H
theorem c_is_between (T : Txt K mg) : C8.Cal P w K mg base 2 "is_between" sp_is_between [] := by
  refine calD T.d_is_between sc_is_between (fun vs H Q E ⟨i, lo, hi, e, _⟩ => by rw [e]; rfl) fun f cdv A outer s H vs Q E hr h => ⟨_, (pss_one (ps_ret (pe_and (C8.pe_c (c_is_integer T) hr (by decide) (by rfl) (pa_cons (pv 0) pa_nil)) (pe_one (pe_chain op_le op_le (pv 1) (pv 0) (pv 2)))))), ?_⟩
  obtain ⟨i, lo, hi, rfl, q⟩ := h
  refine ⟨_, rfl, i, rfl, _, rfl, _, rfl, _, rfl, _, _, rfl, rfl, _, rfl, ?_⟩
  by_cases h1 : lo ≤ i
  · rw [show decide (lo ≤ i) = true from decide_eq_true h1]
    refine ⟨_, rfl, _, _, rfl, rfl, ?_⟩
    by_cases h2 : i ≤ hi
    · show Q (.bl (decide (i ≤ hi))) H
      rw [show decide (i ≤ hi) = true from decide_eq_true h2]
      rw [show decide (lo ≤ i ∧ i ≤ hi) = true from decide_eq_true ⟨h1, h2⟩] at q
      exact q
    · show Q (.bl (decide (i ≤ hi))) H
      rw [show decide (i ≤ hi) = false from decide_eq_false h2]
      rw [show decide (lo ≤ i ∧ i ≤ hi) = false from decide_eq_false fun z => h2 z.2] at q
      exact q
  · rw [show decide (lo ≤ i) = false from decide_eq_false h1]
    rw [show decide (lo ≤ i ∧ i ≤ hi) = false from decide_eq_false fun z => h1 z.1] at q
    exact q
abbrev s_is_pair : Stmt := top 20
abbrev N_is_pair : List Str := ["thing"]
theorem sc_is_pair : FnScope N_is_pair ["thing"] (C8.fnScope s_is_pair) := C8.fnScope_by (by decide +kernel)
def sp_is_len (K : PySem.W.Frag) (n : Int) : Sp := fun vs H Q _ => ∃ a xs, vs = [.ref a] ∧ SqT K H a xs ∧ Q (.bl (decide ((xs.length : Int) = n))) H
theorem dec_V {i j : Int} : decide (V.int i = V.int j) = decide (i = j) := by
  by_cases h : i = j
  · rw [h]; simp
  · simp [h]
theorem c_is_pair (T : Txt K mg) : C8.Cal P w K mg base 1 "is_pair" (sp_is_len K 2) [] := by
  refine calD T.d_is_pair sc_is_pair (fun vs H Q E ⟨a, xs, e, _⟩ => by rw [e]; rfl) fun f cdv A outer s H vs Q E hr h => ⟨_, (pss_one (ps_ret (pe_and (pe_callB call_isi (by rfl) T.z_isinstance (by decide +kernel) (pa_cons (pv 0) (pa_cons (pe_bltn (v := .ty "tuple") (by rfl) T.z_tuple (by decide +kernel) rfl) pa_nil))) (pe_one (pe_cmpR op_eq (pe_callB call_len_seq (by rfl) T.z_len (by decide +kernel) (pa_cons (pv 0) pa_nil)) pe_int (nomark _)))))), ?_⟩
  obtain ⟨a, xs, rfl, hq, q⟩ := h
  refine ⟨_, rfl, _, _, _, _, true, rfl, ClsV.ty _, (tyT hq), kit_ty (by decide +kernel), _, rfl, _, rfl, _, _, rfl, .inr hq, rfl, ?_⟩
  rw [dec_V]
  exact q
abbrev s_is_triple : Stmt := top 21
abbrev N_is_triple : List Str := ["thing"]
theorem sc_is_triple : FnScope N_is_triple ["thing"] (C8.fnScope s_is_triple) := C8.fnScope_by (by decide +kernel)
theorem c_is_triple (T : Txt K mg) : C8.Cal P w K mg base 1 "is_triple" (sp_is_len K 3) [] := by
  refine calD T.d_is_triple sc_is_triple (fun vs H Q E ⟨a, xs, e, _⟩ => by rw [e]; rfl) fun f cdv A outer s H vs Q E hr h => ⟨_, (pss_one (ps_ret (pe_and (pe_callB call_isi (by rfl) T.z_isinstance (by decide +kernel) (pa_cons (pv 0) (pa_cons (pe_bltn (v := .ty "tuple") (by rfl) T.z_tuple (by decide +kernel) rfl) pa_nil))) (pe_one (pe_cmpR op_eq (pe_callB call_len_seq (by rfl) T.z_len (by decide +kernel) (pa_cons (pv 0) pa_nil)) pe_int (nomark _)))))), ?_⟩
  obtain ⟨a, xs, rfl, hq, q⟩ := h
  refine ⟨_, rfl, _, _, _, _, true, rfl, ClsV.ty _, (tyT hq), kit_ty (by decide +kernel), _, rfl, _, rfl, _, _, rfl, .inr hq, rfl, ?_⟩
  rw [dec_V]
  exact q
abbrev s_is_row : Stmt := top 22
abbrev N_is_row : List Str := ["thing", "many", "item"]
theorem sc_is_row : FnScope N_is_row ["thing", "many"] (C8.fnScope s_is_row) := C8.fnScope_by (by decide +kernel)
def sp_is_row (K : PySem.W.Frag) : Sp := fun vs H Q _ => ∃ (a : Addr) (xs : List Int) (n : Int), vs = [.ref a, .int n] ∧ SqT K H a (xs.map .int) ∧ (xs.length : Int) = n ∧ xs.length < 1000 ∧ ∀ H', Ext H H' → Q (.bl true) H'
theorem all_true {xs : List V} {bs : List Bool} (h : bs = xs.map fun _ => true) : bs.all id = true := by
  rw [h]
  simp
theorem c_is_row (T : Txt K mg) : C8.Cal P w K mg base 2 "is_row" (sp_is_row K) [] := by
  refine calD T.d_is_row sc_is_row (fun vs H Q E ⟨a, xs, n, e, _⟩ => by rw [e]; rfl) fun f cdv A outer s H vs Q E hr h => ⟨_, (pss_one (ps_ret (pe_and (pe_callB call_isi (by rfl) T.z_isinstance (by decide +kernel) (pa_cons (pv 0) (pa_cons (pe_bltn (v := .ty "tuple") (by rfl) T.z_tuple (by decide +kernel) rfl) pa_nil))) (pe_and (pe_cmpR op_eq (pe_callB call_len_seq (by rfl) T.z_len (by decide +kernel) (pa_cons (pv 0) pa_nil)) (pv 1) (nomark _)) (pe_one (pe_callB (cr_all rfl) (by rfl) T.z_all (by decide +kernel) (pa_cons (pe_lc (own := [("item", 2)]) (g := (gName 2)) rfl sc_is_row.nd (pi_tup (pv 0)) (blkOk_by (own := [("item", 2)]) (N := N_is_row) (sc := C8.fnScope s_is_row) (by decide +kernel)) (fun _ _ _ _ _ => (pg_name (i := 2) sc_is_row.nd rfl (Or.inl rfl))) (fun _ _ _ _ _ => pts_nil) (fun _ _ _ _ _ => (C8.pe_c (c_is_integer T) hr (by decide) (by rfl) (pa_cons (pv 2) pa_nil)))) pa_nil))))))), ?_⟩
  obtain ⟨a, xs, n, rfl, hq, hn, hl, q⟩ := h
  refine ⟨_, rfl, _, _, _, _, true, rfl, ClsV.ty _, (tyT hq), kit_ty (by decide +kernel), _, rfl, _, rfl, _, _, rfl, .inr hq, _, rfl, rfl, _, rfl, ?_⟩
  rw [dec_V, show decide ((((xs.map V.int).length : Nat) : Int) = n) = true from decide_eq_true (by rw [List.length_map]; exact hn)]
  refine ⟨_, rfl, _, rfl, ⟨_, hq⟩, fun D hD => ?_⟩
  refine lcX (walk_tup (xs := xs.map .int)) hD (RFlat fun _ => .bl true) rfl (fun H' e => e.sqT hq) (fun i x H1 H2 acc hi e h1 h2 h3 y => ?_) fun H' acc e h1 h2 h3 => ?_
  · obtain ⟨rfl, y⟩ := y
    rw [List.getElem?_map] at y
    cases hx : xs[i]? with
    | none => rw [hx] at y; cases y
    | some z =>
      rw [hx] at y
      obtain rfl : V.int z = x := Option.some.inj y
      refine ⟨rfl, _, rfl, z, rfl, ?_⟩
      exact lcFin hD h1 h2 (by rw [List.length_map] at hi; have := sizeLine_eq; omega) e (rflat h3 rfl)
  · refine ⟨_, (List.range (xs.map V.int).length).map fun _ => true, rfl, .inl (.inl ?_), ?_⟩
    · rw [h1, h3, List.map_map]
      rfl
    · rw [show ((List.range (xs.map V.int).length).map fun _ => true).all id = true by simp]
      exact q _ e
theorem lstOf {H : Hp} {a : Addr} {xs : List V} (h : H a = some (.lst xs)) : SqL K H a xs := .inl (.inl h)
theorem tupOf {H : Hp} {a : Addr} {xs : List V} (h : H a = some (.tup xs)) : SqT K H a xs := .inl (.inl h)
/-! is_lot -/
def lotB : List Int → Int → Int → Prop
  | [], _, _ => True
  | k :: r, l, n => l + 1 ≤ k ∧ k ≤ n - 1 ∧ lotB r k n
def lastOf (l : Int) (xs : List Int) : Int := xs.getLastD l
theorem lotB_at : ∀ {xs : List Int} {l n : Int}, lotB xs l n → ∀ i x, xs[i]? = some x → (lastOf l (xs.take i)) + 1 ≤ x ∧ x ≤ n - 1
  | [], _, _, _, i, x, h => by simp at h
  | k :: r, l, n, ⟨h1, h2, h3⟩, 0, x, h => by
    obtain rfl : k = x := by simpa using h
    exact ⟨h1, h2⟩
  | k :: r, l, n, ⟨h1, h2, h3⟩, i + 1, x, h => by
    have q := lotB_at h3 i x (by simpa using h)
    unfold lastOf at q ⊢
    rw [List.take_succ_cons, List.getLastD_cons]
    exact q
theorem last_step {l x : Int} {xs : List Int} {i : Nat} (h : xs[i]? = some x) : lastOf l (xs.take (i + 1)) = x := by
  unfold lastOf
  rw [List.take_add_one, h]
  simp
abbrev s_is_lot : Stmt := top 23
abbrev N_is_lot : List Str := ["thing", "many", "last", "item"]
theorem sc_is_lot : FnScope N_is_lot ["thing", "many"] (C8.fnScope s_is_lot) := C8.fnScope_by (by decide +kernel)
def sp_is_lot (K : PySem.W.Frag) : Sp := fun vs H Q _ => ∃ (a : Addr) (xs : List Int) (n : Int), vs = [.ref a, .int n] ∧ SqT K H a (xs.map .int) ∧ lotB xs (-1) n ∧ Q (.bl true) H
theorem c_is_lot (T : Txt K mg) : C8.Cal P w K mg base 3 "is_lot" (sp_is_lot K) [] := by
  refine calD T.d_is_lot sc_is_lot (fun vs H Q E ⟨a, xs, n, e, _⟩ => by rw [e]; rfl) fun f cdv A outer s H vs Q E hr h => ⟨_, (pss_cons (ps_if (pt_not (pt_val (pe_callB call_isi (by rfl) T.z_isinstance (by decide +kernel) (pa_cons (pv 0) (pa_cons (pe_bltn (v := .ty "tuple") (by rfl) T.z_tuple (by decide +kernel) rfl) pa_nil))))) (pss_one (ps_ret pe_bl)) pss_nil)
    (pss_cons (ps_set (i := 2) sc_is_lot.nd rfl (Or.inl rfl) (pe_un un_neg pe_int))
    (pss_cons (ps_for PassesOwn.never rfl (pi_tup (pv 0)) (pg_name (i := 3) sc_is_lot.nd rfl (Or.inl rfl))
      (pss_cons (ps_if (pt_not (pt_val (C8.pe_c (c_is_between T) hr (by decide) (by rfl) (pa_cons (pv 3) (pa_cons (pe_op op_add (pv 2) pe_int) (pa_cons (pe_op op_sub (pv 1) pe_int) pa_nil)))))) (pss_one (ps_ret pe_bl)) pss_nil)
    (pss_one (ps_set (i := 2) sc_is_lot.nd rfl (Or.inl rfl) (pv 3)))))
    (pss_one (ps_ret pe_bl))))), ?_⟩
  obtain ⟨a, xs, n, rfl, hq, hn, q⟩ := h
  refine ⟨_, rfl, _, _, _, _, true, rfl, ClsV.ty _, (tyT hq), kit_ty (by decide +kernel), _, rfl, _, rfl, _, rfl, _, rfl, ⟨_, hq⟩, ?_⟩
  refine for_it (walk_tup (xs := xs.map .int)) (fun i σ H' => H' = H ∧ ∃ z, σ = [some (.ref a), some (.int n), some (.int (lastOf (-1) (xs.take i))), z]) ⟨rfl, _, rfl⟩ (fun i σ H' _ ⟨e, _⟩ => by rw [e]; exact hq) (fun i x σ H1 H2 hi ⟨e, z, es⟩ y => ?_) fun σ H' ⟨e, z, es⟩ => ?_
  · subst e es
    obtain ⟨rfl, y⟩ := y
    rw [List.getElem?_map] at y
    cases hx : xs[i]? with
    | none => rw [hx] at y; cases y
    | some k =>
      rw [hx] at y
      obtain rfl : V.int k = x := Option.some.inj y
      have hb := lotB_at hn i k hx
      refine ⟨_, rfl, _, rfl, _, _, rfl, rfl, _, rfl, _, _, rfl, rfl, _, _, _, rfl, _, rfl, ?_⟩
      show (if (!decide (lastOf (-1) (xs.take i) + 1 ≤ k ∧ k ≤ n - 1)) = true then _ else _)
      rw [show decide (lastOf (-1) (xs.take i) + 1 ≤ k ∧ k ≤ n - 1) = true from decide_eq_true hb]
      refine ⟨_, rfl, rfl, some (.int k), ?_⟩
      rw [last_step hx]
      rfl
  · subst e es
    exact q
abbrev s_divisor : Stmt := top 26
abbrev N_divisor : List Str := ["one", "other"]
theorem sc_divisor : FnScope N_divisor ["one", "other"] (C8.fnScope s_divisor) := C8.fnScope_by (by decide +kernel)
def sp_divisor : Sp := fun vs H Q _ => ∃ a b : Int, vs = [.int a, .int b] ∧ Q (.int (Int.gcd a b)) H
theorem abs_nat (a : Int) : (if a < 0 then -a else a) = (a.natAbs : Int) := by
  split <;> omega
theorem c_divisor (T : Txt K mg) : C8.Cal P w K mg base 1 "divisor" sp_divisor [] := by
  refine calD T.d_divisor sc_divisor (fun vs H Q E ⟨a, b, e, _⟩ => by rw [e]; rfl) fun f cdv A outer s H vs Q E hr h => ⟨_, (pss_cons (ps_par (i := 0) (j := 1) (by rfl) sc_divisor.nd rfl rfl (by decide) rfl rfl (pa_cons (pe_callB call_abs (by rfl) T.z_abs (by decide +kernel) (pa_cons (pv 0) pa_nil)) (pa_cons (pe_callB call_abs (by rfl) T.z_abs (by decide +kernel) (pa_cons (pv 1) pa_nil)) pa_nil)) (by rfl))
    (pss_cons (ps_while PassesOwn.never (pt_cmpR op_gt (pv 1) pe_int (nomark _)) (pss_one (ps_par (i := 0) (j := 1) (by rfl) sc_divisor.nd rfl rfl (by decide) rfl rfl (pa_cons (pv 1) (pa_cons (pe_op op_mod (pv 0) (pv 1)) pa_nil)) (by rfl))))
    (pss_one (ps_ret (pv 0))))), ?_⟩
  obtain ⟨a, b, rfl, q⟩ := h
  refine ⟨_, rfl, _, rfl, _, rfl, _, rfl, _, _, rfl, fun m σ H' => H' = H ∧ ∃ x y : Nat, σ = [some (.int x), some (.int y)] ∧ Nat.gcd x y = Int.gcd a b ∧ m = y, ⟨b.natAbs, rfl, a.natAbs, b.natAbs, ?_, rfl, rfl⟩, ?_⟩
  · show [some (V.int (if a < 0 then -a else a)), some (V.int (if b < 0 then -b else b))] = _
    rw [abs_nat, abs_nat]
  · rintro m σ H' ⟨rfl, x, y, rfl, hg, rfl⟩
    refine ⟨_, rfl, _, _, rfl, rfl, _, rfl, ?_⟩
    by_cases hy : 0 < m
    · rw [show decide ((0 : Int) < (m : Int)) = true from decide_eq_true (by omega)]
      refine ⟨fun σ' H2 => H2 = H' ∧ ∃ x y : Nat, σ' = [some (.int x), some (.int y)] ∧ Nat.gcd x y = Int.gcd a b ∧ y < m, fun σ' H2 ⟨e1, x, y, e2, e3, e4⟩ => ⟨y, e4, e1, x, y, e2, e3, rfl⟩, ?_⟩
      refine ⟨_, rfl, _, rfl, _, rfl, _, _, rfl, rfl, by omega, _, _, rfl, rfl, m, x % m, rfl, ?_, Nat.mod_lt _ hy⟩
      rw [← hg, Nat.gcd_comm x m, Nat.gcd_rec m x, Nat.gcd_comm]
    · have e0 : m = 0 := by omega
      subst e0
      refine ⟨_, rfl, ?_⟩
      rw [Nat.gcd_zero_right] at hg
      rw [← hg] at q
      exact q
end
end K14
end
section
/-! 3. Fractions, threshold lists, gauges. -/
namespace K14
open PySem PySem.Spec PyProof.Rows L2
/-! ### data of lists and tuples -/
inductive D where
  | non | int (i : Int) | str (s : Str) | tup (l : List D) | lst (l : List D)
mutual
/-- v stands for the datum -/
def At (K : PySem.W.Frag) (H : Hp) : D → V → Prop
  | .non, v => v = .non
  | .int i, v => v = .int i
  | .str s, v => v = .str s
  | .tup l, v => ∃ a xs, v = .ref a ∧ SqT K H a xs ∧ Ats K H l xs
  | .lst l, v => ∃ a xs, v = .ref a ∧ SqL K H a xs ∧ Ats K H l xs
def Ats (K : PySem.W.Frag) (H : Hp) : List D → List V → Prop
  | [], xs => xs = []
  | d :: l, xs => ∃ v r, xs = v :: r ∧ At K H d v ∧ Ats K H l r
end
section
variable {K : PySem.W.Frag} {H H' : Hp}
mutual
theorem At.ext (e : Ext H H') : ∀ {d : D} {v : V}, At K H d v → At K H' d v
  | .non, _, h => h
  | .int _, _, h => h
  | .str _, _, h => h
  | .tup l, v, h => by
    obtain ⟨a, xs, h1, h2, h3⟩ := h
    exact ⟨a, xs, h1, e.sqT h2, Ats.ext e h3⟩
  | .lst l, v, h => by
    obtain ⟨a, xs, h1, h2, h3⟩ := h
    exact ⟨a, xs, h1, e.sqL h2, Ats.ext e h3⟩
theorem Ats.ext (e : Ext H H') : ∀ {l : List D} {xs : List V}, Ats K H l xs → Ats K H' l xs
  | [], _, h => h
  | d :: l, xs, h => by
    obtain ⟨v, r, h1, h2, h3⟩ := h
    exact ⟨v, r, h1, At.ext e h2, Ats.ext e h3⟩
end
theorem Ats.len : ∀ {l : List D} {xs : List V}, Ats K H l xs → xs.length = l.length
  | [], _, h => by
    have h : _ = [] := h
    rw [h] <;> rfl
  | d :: l, xs, h => by
    obtain ⟨v, r, h1, h2, h3⟩ := h
    rw [h1, List.length_cons, List.length_cons, Ats.len h3]
theorem Ats.get : ∀ {l : List D} {xs : List V}, Ats K H l xs → ∀ {i : Nat} {v : V}, xs[i]? = some v → ∃ d, l[i]? = some d ∧ At K H d v
  | [], _, h, i, v, e => by
    have h : _ = [] := h
    rw [h] at e
    cases e
  | d :: l, xs, h, i, v, e => by
    obtain ⟨u, r, h1, h2, h3⟩ := h
    subst h1
    cases i with
    | zero =>
      obtain rfl : u = v := by simpa using e
      exact ⟨d, rfl, h2⟩
    | succ i =>
      obtain ⟨d', q1, q2⟩ := Ats.get h3 (i := i) (v := v) (by simpa using e)
      exact ⟨d', by simpa using q1, q2⟩
theorem Ats.get' {l : List D} {xs : List V} (h : Ats K H l xs) {i : Nat} {d : D} (e : l[i]? = some d) : ∃ v, xs[i]? = some v ∧ At K H d v := by
  have hi : i < xs.length := by
    rw [h.len]
    exact (List.getElem?_eq_some_iff.mp e).1
  obtain ⟨d', q1, q2⟩ := h.get (List.getElem?_eq_getElem hi)
  rw [e] at q1
  cases q1
  exact ⟨_, List.getElem?_eq_getElem hi, q2⟩
theorem ats_of : ∀ {l : List D} {xs : List V}, xs.length = l.length → (∀ (i : Nat) (d : D) (v : V), l[i]? = some d → xs[i]? = some v → At K H d v) → Ats K H l xs
  | [], xs, h, _ => by
    show xs = []
    exact List.eq_nil_of_length_eq_zero (by simpa using h)
  | d :: l, [], h, _ => by simp at h
  | d :: l, v :: xs, h, g => ⟨v, xs, rfl, g 0 d v rfl rfl, ats_of (by simpa using h) fun i d' v' h1 h2 => g (i + 1) d' v' (by simpa using h1) (by simpa using h2)⟩
theorem Ats.snoc : ∀ {l : List D} {xs : List V} {d : D} {v : V}, Ats K H l xs → At K H d v → Ats K H (l ++ [d]) (xs ++ [v])
  | [], xs, d, v, h, g => by
    have h : xs = [] := h
    subst h
    exact ⟨v, [], rfl, g, rfl⟩
  | e :: l, xs, d, v, h, g => by
    obtain ⟨u, r, h1, h2, h3⟩ := h
    subst h1
    exact ⟨u, r ++ [v], rfl, h2, Ats.snoc h3 g⟩
theorem ats_ints : ∀ {is : List Int} {xs : List V}, Ats K H (is.map .int) xs → xs = is.map .int
  | [], _, h => h
  | i :: is, xs, h => by
    obtain ⟨v, r, h1, h2, h3⟩ := h
    have h2 : v = .int i := h2
    rw [h1, h2, ats_ints h3] <;> rfl
theorem ints_ats : ∀ (is : List Int), Ats K H (is.map .int) (is.map .int)
  | [] => rfl
  | i :: is => ⟨.int i, is.map .int, rfl, rfl, ints_ats is⟩
/-- a tuple of ints -/
abbrev Is (K : PySem.W.Frag) (H : Hp) (a : Addr) (is : List Int) : Prop := SqT K H a (is.map .int)
def dInts (is : List Int) : D := .tup (is.map .int)
theorem at_ints {is : List Int} {v : V} (h : At K H (dInts is) v) : ∃ a, v = .ref a ∧ Is K H a is := by
  obtain ⟨a, xs, h1, h2, h3⟩ := h
  rw [ats_ints h3] at h2
  exact ⟨a, h1, h2⟩
theorem ints_at {is : List Int} {a : Addr} (h : Is K H a is) : At K H (dInts is) (.ref a) := ⟨a, _, rfl, h, ints_ats is⟩
end
theorem cut1 {xs : List V} : cutV xs (some 1) none = xs.drop 1 := by
  unfold cutV
  rw [HT.sIx_none, show (some (1 : Int)) = some ((1 : Nat) : Int) from rfl, HT.sIx_nat]
  by_cases h : 1 ≤ xs.length
  · rw [Nat.min_eq_left h, List.take_of_length_le (by rw [List.length_drop]; omega)]
  · have e : xs = [] := List.eq_nil_of_length_eq_zero (by omega)
    subst e
    rfl
/-! ### steps -/
def dStep (s : Int × Int) : D := .tup [.int s.1, .int s.2]
def dSteps (ss : List (Int × Int)) : D := .tup (ss.map dStep)
/-- a threshold as the program asks -/
def VStep (s : Int × Int) : Prop := 1 ≤ s.1 ∧ s.1 ≤ 1000000 ∧ 1 ≤ s.2 ∧ s.2 ≤ 144 ∧ Int.gcd s.1 s.2 = 1
def VSteps (ss : List (Int × Int)) : Prop := 1 ≤ ss.length ∧ ss.length ≤ 6 ∧ (∀ s ∈ ss, VStep s) ∧ ∀ i s t, ss[i]? = some s → ss[i + 1]? = some t → ¬ (t.1 * s.2 < s.1 * t.2)
theorem at_step {K : PySem.W.Frag} {H : Hp} {s : Int × Int} {v : V} (h : At K H (dStep s) v) : ∃ p, v = .ref p ∧ SqT K H p [.int s.1, .int s.2] := by
  obtain ⟨a, xs, h1, h2, v1, r1, e1, h3, v2, r2, e2, h4, e3⟩ := h
  have h3 : v1 = .int s.1 := h3
  have h4 : v2 = .int s.2 := h4
  have e3 : r2 = [] := e3
  subst h3 h4 e3 e2 e1
  exact ⟨a, h1, h2⟩
theorem step_at {K : PySem.W.Frag} {H : Hp} {s : Int × Int} {p : Addr} (h : SqT K H p [.int s.1, .int s.2]) : At K H (dStep s) (.ref p) := ⟨p, _, rfl, h, _, _, rfl, rfl, _, _, rfl, rfl, rfl⟩
section
variable {P : Program} {w : World} {K : PySem.W.Frag} {mg : Str → Option Value} {base : Heap}
abbrev s_multiple : Stmt := top 27
abbrev N_multiple : List Str := ["one", "other"]
theorem sc_multiple : FnScope N_multiple ["one", "other"] (C8.fnScope s_multiple) := C8.fnScope_by (by decide +kernel)
def sp_multiple : Sp := fun vs H Q _ => ∃ a b : Int, vs = [.int a, .int b] ∧ 0 < a ∧ a ≤ 1000 ∧ 0 < b ∧ b ≤ 1000 ∧ Q (.int (a / (Int.gcd a b : Int) * b)) H
theorem gcd_pos {a b : Int} (h : b ≠ 0) : 0 < (Int.gcd a b : Int) := by
  have := Int.gcd_pos_of_ne_zero_right a h
  omega
theorem gcd_le {a b : Int} (h : 0 < b) : (Int.gcd a b : Int) ≤ b := Int.le_of_dvd h (Int.gcd_dvd_right a b)
theorem c_multiple (T : Txt K mg) : C8.Cal P w K mg base 2 "multiple" sp_multiple [] := by
  refine calD T.d_multiple sc_multiple (fun vs H Q E ⟨a, b, e, _⟩ => by rw [e]; rfl) fun f cdv A outer s H vs Q E hr h => ⟨_, (pss_one (ps_ret (pe_op op_mul (pe_op op_fdiv (pv 0) (C8.pe_c (c_divisor T) hr (by decide) (by rfl) (pa_cons (pv 0) (pa_cons (pv 1) pa_nil)))) (pv 1)))), ?_⟩
  obtain ⟨a, b, rfl, h1, h2, h3, h4, q⟩ := h
  have g1 := gcd_pos (a := a) (b := b) (by omega)
  have g2 := gcd_le (a := a) h3
  exact ⟨_, rfl, _, rfl, _, rfl, _, _, rfl, _, _, rfl, rfl, ⟨g1, by omega⟩, _, rfl, _, _, rfl, rfl, .inr ⟨by omega, by omega⟩, q⟩
abbrev s_made : Stmt := top 28
abbrev N_made : List Str := ["top", "bottom", "part"]
theorem sc_made : FnScope N_made ["top", "bottom"] (C8.fnScope s_made) := C8.fnScope_by (by decide +kernel)
def sp_made : Sp := fun vs H Q _ => ∃ t b : Int, vs = [.int t, .int b] ∧ 0 < b ∧ b ≤ 1000000 ∧ ∀ p, H p = none → Q (.ref p) (upd H p (.tup [.int (t / (Int.gcd t b : Int)), .int (b / (Int.gcd t b : Int))]))
theorem c_made (T : Txt K mg) : C8.Cal P w K mg base 2 "made" sp_made [] := by
  refine calD T.d_made sc_made (fun vs H Q E ⟨a, b, e, _⟩ => by rw [e]; rfl) fun f cdv A outer s H vs Q E hr h => ⟨_, (pss_cons (ps_set (i := 2) sc_made.nd rfl (Or.inl rfl) (C8.pe_c (c_divisor T) hr (by decide) (by rfl) (pa_cons (pv 0) (pa_cons (pv 1) pa_nil))))
    (pss_one (ps_ret (pe_tup (pa_cons (pe_op op_fdiv (pv 0) (pv 2)) (pa_cons (pe_op op_fdiv (pv 1) (pv 2)) pa_nil)))))), ?_⟩
  obtain ⟨a, b, rfl, h1, h2, q⟩ := h
  have g1 := gcd_pos (a := a) (b := b) (by omega)
  have g2 := gcd_le (a := a) h1
  have c : CDiv a (Int.gcd a b : Int) := ⟨g1, by omega⟩
  exact ⟨_, rfl, _, rfl, _, _, rfl, _, rfl, _, rfl, _, _, rfl, rfl, c, _, rfl, _, rfl, _, _, rfl, rfl, c, (by show 2 ≤ sizeLine; decide), fun p hp => q p hp⟩
abbrev s_is_fraction : Stmt := top 29
abbrev N_is_fraction : List Str := ["thing"]
theorem sc_is_fraction : FnScope N_is_fraction ["thing"] (C8.fnScope s_is_fraction) := C8.fnScope_by (by decide +kernel)
def sp_is_fraction (K : PySem.W.Frag) : Sp := fun vs H Q _ => ∃ (p : Addr) (t b : Int), vs = [.ref p] ∧ SqT K H p [.int t, .int b] ∧ 1 ≤ b ∧ Int.gcd t b = 1 ∧ Q (.bl true) H
theorem c_is_fraction (T : Txt K mg) : C8.Cal P w K mg base 2 "is_fraction" (sp_is_fraction K) [] := by
  refine calD T.d_is_fraction sc_is_fraction (fun vs H Q E ⟨p, a, b, e, _⟩ => by rw [e]; rfl) fun f cdv A outer s H vs Q E hr h => ⟨_, (pss_cons (ps_if (PW.pt (pw_or (pt_not (pt_val (C8.pe_c (c_is_pair T) hr (by decide) (by rfl) (pa_cons (pv 0) pa_nil)))) (pw_or (pt_not (pt_val (C8.pe_c (c_is_integer T) hr (by decide) (by rfl) (pa_cons (pe_ix (ix_k (K := K) rfl) (pv 0) pe_int (fun _ _ => rfl)) pa_nil)))) (pw_or (pt_not (pt_val (C8.pe_c (c_is_integer T) hr (by decide) (by rfl) (pa_cons (pe_ix (ix_k (K := K) rfl) (pv 0) pe_int (fun _ _ => rfl)) pa_nil)))) (pw_or1 (pt_cmpR op_lt (pe_ix (ix_k (K := K) rfl) (pv 0) pe_int (fun _ _ => rfl)) pe_int (nomark _))))))) (pss_one (ps_ret pe_bl)) pss_nil)
    (pss_one (ps_ret (pe_cmpR op_eq (C8.pe_c (c_divisor T) hr (by decide) (by rfl) (pa_cons (pe_ix (ix_k (K := K) rfl) (pv 0) pe_int (fun _ _ => rfl)) (pa_cons (pe_ix (ix_k (K := K) rfl) (pv 0) pe_int (fun _ _ => rfl)) pa_nil))) pe_int (nomark _))))), ?_⟩
  obtain ⟨p, a, b, rfl, hq, h1, h2, q⟩ := h
  have ix0 : ∀ {Q : VK}, Q (.int a) H → rIxQ K (.ref p) (.int 0) H Q := fun q => ⟨p, _, 0, _, rfl, rfl, .inr hq, rfl, q⟩
  refine ⟨_, rfl, p, _, rfl, hq, _, rfl, _, rfl, p, _, 0, _, rfl, rfl, .inr hq, rfl, _, rfl, _, rfl, _, rfl, p, _, 1, _, rfl, rfl, .inr hq, rfl, _, rfl, _, rfl, _, rfl, p, _, 1, _, rfl, rfl, .inr hq, rfl, _, _, rfl, rfl, _, rfl, ?_⟩
  rw [show decide (b < (1 : Int)) = false from decide_eq_false (by omega)]
  refine ⟨_, rfl, p, _, 0, _, rfl, rfl, .inr hq, rfl, _, rfl, p, _, 1, _, rfl, rfl, .inr hq, rfl, _, _, rfl, rfl, ?_⟩
  rw [dec_V, show decide ((Int.gcd a b : Int) = 1) = true from decide_eq_true (by omega)]
  exact q
abbrev s_is_below : Stmt := top 30
abbrev N_is_below : List Str := ["one", "other"]
theorem sc_is_below : FnScope N_is_below ["one", "other"] (C8.fnScope s_is_below) := C8.fnScope_by (by decide +kernel)
def sp_is_below (K : PySem.W.Frag) : Sp := fun vs H Q _ => ∃ (p p' : Addr) (t b t' b' : Int), vs = [.ref p, .ref p'] ∧ SqT K H p [.int t, .int b] ∧ SqT K H p' [.int t', .int b'] ∧ 1 ≤ b ∧ b ≤ 144 ∧ 1 ≤ b' ∧ b' ≤ 144 ∧ Q (.bl (decide (t * b' < t' * b))) H
theorem c_is_below (T : Txt K mg) : C8.Cal P w K mg base 1 "is_below" (sp_is_below K) [] := by
  refine calD T.d_is_below sc_is_below (fun vs H Q E ⟨p, p', t, b, t', b', e, _⟩ => by rw [e]; rfl) fun f cdv A outer s H vs Q E hr h => ⟨_, (pss_one (ps_ret (pe_cmpR op_lt (pe_op op_mul (pe_ix (ix_k (K := K) rfl) (pv 0) pe_int (fun _ _ => rfl)) (pe_ix (ix_k (K := K) rfl) (pv 1) pe_int (fun _ _ => rfl))) (pe_op op_mul (pe_ix (ix_k (K := K) rfl) (pv 1) pe_int (fun _ _ => rfl)) (pe_ix (ix_k (K := K) rfl) (pv 0) pe_int (fun _ _ => rfl))) (nomark _)))), ?_⟩
  obtain ⟨p, p', t, b, t', b', rfl, hq, hq', h1, h2, h3, h4, q⟩ := h
  exact ⟨_, rfl, p, _, 0, _, rfl, rfl, .inr hq, rfl, _, rfl, p', _, 1, _, rfl, rfl, .inr hq', rfl, _, _, rfl, rfl, .inr ⟨by omega, by omega⟩,
    _, rfl, p', _, 0, _, rfl, rfl, .inr hq', rfl, _, rfl, p, _, 1, _, rfl, rfl, .inr hq, rfl, _, _, rfl, rfl, .inr ⟨by omega, by omega⟩, _, _, rfl, rfl, q⟩
abbrev s_next_whole : Stmt := top 31
abbrev N_next_whole : List Str := ["one"]
theorem sc_next_whole : FnScope N_next_whole ["one"] (C8.fnScope s_next_whole) := C8.fnScope_by (by decide +kernel)
def sp_next_whole (K : PySem.W.Frag) : Sp := fun vs H Q _ => ∃ (p : Addr) (t b : Int), vs = [.ref p] ∧ SqT K H p [.int t, .int b] ∧ 1 ≤ b ∧ b ≤ 144 ∧ Q (.int (-((-t) / b))) H
theorem c_next_whole (T : Txt K mg) : C8.Cal P w K mg base 1 "next_whole" (sp_next_whole K) [] := by
  refine calD T.d_next_whole sc_next_whole (fun vs H Q E ⟨p, a, b, e, _⟩ => by rw [e]; rfl) fun f cdv A outer s H vs Q E hr h => ⟨_, (pss_one (ps_ret (pe_un un_neg (pe_op op_fdiv (pe_un un_neg (pe_ix (ix_k (K := K) rfl) (pv 0) pe_int (fun _ _ => rfl))) (pe_ix (ix_k (K := K) rfl) (pv 0) pe_int (fun _ _ => rfl)))))), ?_⟩
  obtain ⟨p, t, b, rfl, hq, h1, h2, q⟩ := h
  exact ⟨_, rfl, p, _, 0, _, rfl, rfl, .inr hq, rfl, _, rfl, _, rfl, p, _, 1, _, rfl, rfl, .inr hq, rfl, _, _, rfl, rfl, ⟨by omega, by omega⟩, _, rfl, q⟩
abbrev s_is_threshold : Stmt := top 37
abbrev N_is_threshold : List Str := ["thing"]
theorem sc_is_threshold : FnScope N_is_threshold ["thing"] (C8.fnScope s_is_threshold) := C8.fnScope_by (by decide +kernel)
def sp_is_threshold (K : PySem.W.Frag) : Sp := fun vs H Q _ => ∃ (p : Addr) (s : Int × Int), vs = [.ref p] ∧ SqT K H p [.int s.1, .int s.2] ∧ VStep s ∧ Q (.bl true) H
theorem c_is_threshold (T : Txt K mg) : C8.Cal P w K mg base 3 "is_threshold" (sp_is_threshold K) [] := by
  refine calD T.d_is_threshold sc_is_threshold (fun vs H Q E ⟨p, a, e, _⟩ => by rw [e]; rfl) fun f cdv A outer s H vs Q E hr h => ⟨_, (pss_one (ps_ret (pe_and (C8.pe_c (c_is_fraction T) hr (by decide) (by rfl) (pa_cons (pv 0) pa_nil)) (pe_and (pe_chain op_le op_le pe_int (pe_ix (ix_k (K := K) rfl) (pv 0) pe_int (fun _ _ => rfl)) (C8.pe_gc (by rfl) T.m_MOST_TOP)) (pe_one (pe_cmpR op_le (pe_ix (ix_k (K := K) rfl) (pv 0) pe_int (fun _ _ => rfl)) (C8.pe_gc (by rfl) T.m_MOST_BOTTOM) (nomark _))))))), ?_⟩
  obtain ⟨p, ⟨t, b⟩, rfl, hq, ⟨v1, v2, v3, v4, v5⟩, q⟩ := h
  dsimp only at v1 v2 v3 v4 v5 hq
  refine ⟨_, rfl, p, t, b, rfl, hq, v3, v5, _, rfl, _, rfl, p, _, 0, _, rfl, rfl, .inr hq, rfl, _, _, rfl, rfl, _, rfl, ?_⟩
  rw [show decide ((1 : Int) ≤ t) = true from decide_eq_true v1]
  refine ⟨_, _, rfl, rfl, _, rfl, ?_⟩
  rw [show decide (t ≤ (1000000 : Int)) = true from decide_eq_true v2]
  refine ⟨_, rfl, p, _, 1, _, rfl, rfl, .inr hq, rfl, _, _, rfl, rfl, ?_⟩
  show Q (.bl (decide (b ≤ (144 : Int)))) H
  rw [show decide (b ≤ (144 : Int)) = true from decide_eq_true v4]
  exact q
end
end K14
end
section
/-! 4. Threshold lists, gauges, webs. -/
namespace K14
open PySem PySem.Spec PyProof.Rows L2 RZ
theorem walk_zipT {K : PySem.W.Frag} {a b : Addr} {xs ys : List V} {n : Nat} (hn : n = min xs.length ys.length) : Walk (ItzT K a b) n (fun H => SqT K H a xs ∧ SqT K H b ys) (YPair (fun i => xs[i]?) (fun i => ys[i]?)) := by
  subst hn
  refine ⟨fun i _ hi q => ?_, fun _ q => ⟨xs, ys, q.1, q.2, by omega⟩, fun i H v H' _ q y => ?_⟩
  · have h1 : i < xs.length := by omega
    have h2 : i < ys.length := by omega
    exact ⟨xs, ys, xs[i], ys[i], q.1, q.2, by simp [h1], by simp [h2]⟩
  · obtain ⟨T, x, z, h1, h2, h3, h4, h5⟩ := y
    exact ⟨T, x, z, h1, h2, h3, h4 xs q.1, h5 ys q.2⟩
theorem atI_nat {α : Type} {xs : List α} {j : Nat} {v : α} (h : xs[j]? = some v) : atI xs (j : Int) = some v := by
  have hj := (List.getElem?_eq_some_iff.mp h).1
  have h1 : ixN xs.length ((j : Nat) : Int) = some j := by
    unfold ixN
    rw [if_pos (by omega), if_pos (by omega)]
    all_goals rfl
  unfold atI
  rw [h1]
  exact h
theorem atI_last {α : Type} {xs : List α} {v : α} (h : xs[xs.length - 1]? = some v) : atI xs (-1) = some v := by
  have hj := (List.getElem?_eq_some_iff.mp h).1
  have h1 : ixN xs.length (-1) = some (xs.length - 1) := by
    unfold ixN
    rw [if_neg (by omega), if_pos (by omega)]
    congr 1
    omega
  unfold atI
  rw [h1]
  exact h
theorem small_line {n : Nat} (h : n < 1000) : n < sizeLine := by
  have := sizeLine_eq
  omega
/-- any(..) of a list of False, all(..) of a list of True -/
theorem any_flat {n : Nat} : ((List.range n).map fun _ => false).any id = false := by simp
theorem all_flat {n : Nat} : ((List.range n).map fun _ => true).all id = true := by simp
/-! ### the data of webs -/
structure Pipe where
  a : Nat
  b : Nat
  ss : List (Int × Int)
def dPipe (p : Pipe) : D := .tup [.int p.a, .int p.b, dSteps p.ss]
def VPipe (n : Nat) (p : Pipe) : Prop := p.a < p.b ∧ p.b < n ∧ VSteps p.ss
def VWidths (ws : List Int) : Prop := 1 ≤ ws.length ∧ ws.length ≤ 12 ∧ ∀ x ∈ ws, 0 ≤ x ∧ x ≤ 12
def wd (ws : List Int) (i : Nat) : Int := ws.getD i 0
def grains (x y : Int) : Int := if x = 0 ∨ y = 0 then max (max x y) 1 else x / (Int.gcd x y : Int) * y
def fac (g x : Int) : Int := if x = 0 then 0 else g / x
def unit (g : Int) (s : Int × Int) : Int := -((-(s.1 * g / (Int.gcd (s.1 * g) s.2 : Int))) / (s.2 / (Int.gcd (s.1 * g) s.2 : Int)))
def pg (ws : List Int) (p : Pipe) : Int := grains (wd ws p.a) (wd ws p.b)
def dGauge (ws : List Int) (p : Pipe) : D := .tup [.int p.a, .int p.b, .int (fac (pg ws p) (wd ws p.a)), .int (fac (pg ws p) (wd ws p.b)), dInts (p.ss.map (unit (pg ws p))), .int (pg ws p)]
theorem wd_at {ws : List Int} {i : Nat} (h : i < ws.length) : (ws.map V.int)[i]? = some (.int (wd ws i)) := by
  unfold wd
  rw [List.getElem?_map, List.getElem?_eq_getElem h, List.getD_eq_getElem?_getD, List.getElem?_eq_getElem h] <;> rfl
theorem wd_mem {ws : List Int} {i : Nat} (h : i < ws.length) : wd ws i ∈ ws := by
  unfold wd
  rw [List.getD_eq_getElem?_getD, List.getElem?_eq_getElem h]
  exact List.getElem_mem h
theorem grains_pos {x y : Int} (hx : 0 ≤ x) (hy : 0 ≤ y) : 0 < grains x y := by
  unfold grains
  split
  · omega
  · rename_i h
    have g1 := gcd_pos (a := x) (b := y) (by omega)
    have g2 : (Int.gcd x y : Int) ≤ x := Int.le_of_dvd (by omega) (Int.gcd_dvd_left x y)
    have h1 : 0 < x / (Int.gcd x y : Int) := Int.ediv_pos_of_pos_of_dvd (by omega) (by omega) (Int.gcd_dvd_left x y)
    exact Int.mul_pos h1 (by omega)
theorem grains_le {x y : Int} (hx : 0 ≤ x) (hy : 0 ≤ y) (hx1 : x ≤ 12) (hy1 : y ≤ 12) : grains x y ≤ 144 := by
  unfold grains
  split
  · omega
  · rename_i h
    have g1 := gcd_pos (a := x) (b := y) (by omega)
    have h1 : x / (Int.gcd x y : Int) ≤ x := Int.ediv_le_self _ hx
    have h2 : 0 ≤ x / (Int.gcd x y : Int) := Int.ediv_nonneg hx (by omega)
    calc x / (Int.gcd x y : Int) * y ≤ 12 * y := Int.mul_le_mul_of_nonneg_right (by omega) hy
      _ ≤ 144 := by omega
section
variable {P : Program} {w : World} {K : PySem.W.Frag} {mg : Str → Option Value} {base : Heap}
abbrev s_is_list : Stmt := top 38
abbrev N_is_list : List Str := ["thing", "item", "later"]
theorem sc_is_list : FnScope N_is_list ["thing"] (C8.fnScope s_is_list) := C8.fnScope_by (by decide +kernel)
def sp_is_list (K : PySem.W.Frag) : Sp := fun vs H Q _ => ∃ (v : V) (ss : List (Int × Int)), vs = [v] ∧ At K H (dSteps ss) v ∧ VSteps ss ∧ ∀ H', Ext H H' → Q (.bl true) H'
theorem c_is_list (T : Txt K mg) : C8.Cal P w K mg base 4 "is_list" (sp_is_list K) [] := by
  refine calD T.d_is_list sc_is_list (fun vs H Q E ⟨p, ss, e, _⟩ => by rw [e]; rfl) fun f cdv A outer s H vs Q E hr h => ⟨_, (pss_cons (ps_if (PW.pt (pw_or (pt_not (pt_val (pe_callB call_isi (by rfl) T.z_isinstance (by decide +kernel) (pa_cons (pv 0) (pa_cons (pe_bltn (v := .ty "tuple") (by rfl) T.z_tuple (by decide +kernel) rfl) pa_nil))))) (pw_or1 (pt_not (pt_chain op_le op_le pe_int (pe_callB call_len_seq (by rfl) T.z_len (by decide +kernel) (pa_cons (pv 0) pa_nil)) (C8.pe_gc (by rfl) T.m_MOST_THRESHOLDS)))))) (pss_one (ps_ret pe_bl)) pss_nil)
    (pss_cons (ps_if (pt_not (pt_val (pe_callB (cr_all rfl) (by rfl) T.z_all (by decide +kernel) (pa_cons (pe_lc (own := [("item", 1)]) (g := (gName 1)) rfl sc_is_list.nd (pi_tup (pv 0)) (blkOk_by (own := [("item", 1)]) (N := N_is_list) (sc := C8.fnScope s_is_list) (by decide +kernel)) (fun _ _ _ _ _ => (pg_name (i := 1) sc_is_list.nd rfl (Or.inl rfl))) (fun _ _ _ _ _ => pts_nil) (fun _ _ _ _ _ => (C8.pe_c (c_is_threshold T) hr (by decide) (by rfl) (pa_cons (pv 1) pa_nil)))) pa_nil)))) (pss_one (ps_ret pe_bl)) pss_nil)
    (pss_one (ps_ret (pe_not (pe_callB (cr_any rfl) (by rfl) T.z_any (by decide +kernel) (pa_cons (pe_lc (own := [("item", 1), ("later", 2)]) (g := (gTup K 2 (gCons (gName 1) (gCons (gName 2) gNil)))) rfl sc_is_list.nd (pi_zipA (by rfl) T.z_zip (pa_cons (pv 0) (pa_cons (pe_slice sl_tup (pv 0) (po_some pe_int) po_none) pa_nil))) (blkOk_by (own := [("item", 1), ("later", 2)]) (N := N_is_list) (sc := C8.fnScope s_is_list) (by decide +kernel)) (fun _ _ _ _ _ => (pg_tup (by rfl) (pgs_cons (pg_name (i := 1) sc_is_list.nd rfl (Or.inl rfl)) (pgs_cons (pg_name (i := 2) sc_is_list.nd rfl (Or.inl rfl)) pgs_nil)))) (fun _ _ _ _ _ => pts_nil) (fun _ _ _ _ _ => (C8.pe_c (c_is_below T) hr (by decide) (by rfl) (pa_cons (pv 2) (pa_cons (pv 1) pa_nil))))) pa_nil))))))), ?_⟩
  obtain ⟨v, ss, rfl, ha, ⟨l1, l2, hv, hs⟩, q⟩ := h
  obtain ⟨a, xs, rfl, hq, hx⟩ := ha
  have hl : xs.length = ss.length := by rw [hx.len, List.length_map]
  have get : ∀ {H' : Hp} (e : Ext H H') {i : Nat} {x : V}, xs[i]? = some x → ∃ s, ss[i]? = some s ∧ ∃ p, x = .ref p ∧ SqT K H' p [.int s.1, .int s.2] := fun {H'} e {i x} hi => by
    obtain ⟨d, h1, h2⟩ := (hx.ext e).get hi
    rw [List.getElem?_map] at h1
    cases hss : ss[i]? with
    | none => rw [hss] at h1; cases h1
    | some s =>
      rw [hss] at h1
      obtain rfl : dStep s = d := Option.some.inj h1
      exact ⟨s, rfl, at_step h2⟩
  refine ⟨_, rfl, _, _, _, _, true, rfl, ClsV.ty _, (tyT hq), kit_ty (by decide +kernel), _, rfl, _, rfl, _, _, rfl, .inr hq, _, _, rfl, rfl, _, rfl, ?_⟩
  rw [show decide ((1 : Int) ≤ (xs.length : Nat)) = true from decide_eq_true (by omega)]
  refine ⟨_, _, rfl, rfl, _, rfl, ?_⟩
  show if (!decide (((xs.length : Nat) : Int) ≤ (6 : Int))) = true then _ else _
  rw [show decide (((xs.length : Nat) : Int) ≤ (6 : Int)) = true from decide_eq_true (by omega)]
  refine ⟨_, rfl, _, rfl, ⟨_, hq⟩, fun D1 hD1 => ?_⟩
  refine lcX (walk_tup (xs := xs)) hD1 (RFlat fun _ => .bl true) rfl (fun H' e => e.sqT hq) (fun i x H1 H2 acc hi e h1 h2 h3 y => ?_) fun H1 acc e h1 h2 h3 => ?_
  · obtain ⟨rfl, y⟩ := y
    obtain ⟨s, es, p, rfl, hp⟩ := get e y
    exact ⟨rfl, _, rfl, p, s, rfl, hp, hv s (List.mem_of_getElem? es), lcFin hD1 h1 h2 (small_line (by omega)) e (rflat h3 rfl)⟩
  · refine ⟨_, (List.range xs.length).map fun _ => true, rfl, .inl (.inl ?_), ?_⟩
    · rw [h1, h3, List.map_map]
      rfl
    · rw [all_flat]
      refine ⟨_, rfl, ?_⟩
      have hq1 := e.sqT hq
      refine ⟨_, rfl, _, rfl, _, rfl, a, xs, rfl, hq1, fun z => ?_, fun T hT => ?_⟩
      · have z1 := z.1
        rw [show (some (1 : Int)) = some ((1 : Nat) : Int) from rfl, HT.sIx_nat, Nat.min_eq_left (by omega)] at z1
        cases z1
      · rw [cut1]
        have e2 : Ext H (upd H1 T (.tup (xs.drop 1))) := e.trans (Ext.new hT)
        refine ⟨a, T, xs, xs.drop 1, rfl, .inr ⟨(Ext.new hT).sqT hq1, tupOf upd_same, fun D hD => ?_⟩⟩
        refine lcX (walk_zipT (xs := xs) (ys := xs.drop 1) (n := xs.length - 1) (by rw [List.length_drop]; omega)) hD (RFlat fun _ => .bl false) rfl (fun H' e' => ⟨e'.sqT ((Ext.new hT).sqT hq1), e'.sqT (tupOf upd_same)⟩) (fun i x H2 H3 acc hi e' h1 h2 h3 y => ?_) fun H2 acc e' h1 h2 h3 => ?_
        · obtain ⟨T2, x1, x2, rfl, hT2, rfl, y1, y2⟩ := y
          have e3 : Ext H (upd H2 T2 (.tup [x1, x2])) := (e2.trans e').trans (Ext.new hT2)
          obtain ⟨s1, es1, p1, rfl, hp1⟩ := get e3 y1
          obtain ⟨s2, es2, p2, rfl, hp2⟩ := get e3 (i := i + 1) (by
            have y3 : (xs.drop 1)[i]? = some x2 := y2
            rw [List.getElem?_drop, Nat.add_comm] at y3
            exact y3)
          obtain ⟨_, _, b1, b2, _⟩ := hv s1 (List.mem_of_getElem? es1)
          obtain ⟨_, _, b3, b4, _⟩ := hv s2 (List.mem_of_getElem? es2)
          refine ⟨_, _, rfl, tupOf upd_same, rfl, _, _, rfl, _, _, rfl, rfl, rfl, _, rfl, _, rfl, p2, p1, s2.1, s2.2, s1.1, s1.2, rfl, hp2, hp1, b3, b4, b1, b2, ?_⟩
          rw [show decide (s2.1 * s1.2 < s1.1 * s2.2) = false from decide_eq_false (hs i s1 s2 es1 es2)]
          refine lcFin hD ?_ h2 (small_line (by omega)) (e'.trans (Ext.new hT2)) (rflat h3 rfl)
          rw [upd_ne (ne_of_none h1 hT2)]
          exact h1
        · refine ⟨_, (List.range (xs.length - 1)).map fun _ => false, rfl, .inl (.inl ?_), ?_⟩
          · rw [h1, h3, List.map_map]
            rfl
          · rw [any_flat]
            exact ⟨_, rfl, q _ (e2.trans e')⟩
abbrev s_is_width : Stmt := top 39
abbrev N_is_width : List Str := ["thing"]
theorem sc_is_width : FnScope N_is_width ["thing"] (C8.fnScope s_is_width) := C8.fnScope_by (by decide +kernel)
def sp_is_width : Sp := fun vs H Q _ => ∃ x : Int, vs = [.int x] ∧ 0 ≤ x ∧ x ≤ 12 ∧ Q (.bl true) H
theorem c_is_width (T : Txt K mg) : C8.Cal P w K mg base 3 "is_width" sp_is_width [] := by
  refine calD T.d_is_width sc_is_width (fun vs H Q E ⟨x, e, _⟩ => by rw [e]; rfl) fun f cdv A outer s H vs Q E hr h => ⟨_, (pss_one (ps_ret (C8.pe_c (c_is_between T) hr (by decide) (by rfl) (pa_cons (pv 0) (pa_cons pe_int (pa_cons (C8.pe_gc (by rfl) T.m_MOST_WIDTH) pa_nil)))))), ?_⟩
  obtain ⟨x, rfl, h1, h2, q⟩ := h
  refine ⟨_, rfl, _, _, _, rfl, ?_⟩
  rw [show decide ((0 : Int) ≤ x ∧ x ≤ 12) = true from decide_eq_true ⟨h1, h2⟩]
  exact q
abbrev s_parts_of_grain : Stmt := top 40
abbrev N_parts_of_grain : List Str := ["width", "other"]
theorem sc_parts_of_grain : FnScope N_parts_of_grain ["width", "other"] (C8.fnScope s_parts_of_grain) := C8.fnScope_by (by decide +kernel)
def sp_grain : Sp := fun vs H Q _ => ∃ x y : Int, vs = [.int x, .int y] ∧ 0 ≤ x ∧ x ≤ 12 ∧ 0 ≤ y ∧ y ≤ 12 ∧ Q (.int (grains x y)) H
theorem c_parts_of_grain (T : Txt K mg) : C8.Cal P w K mg base 3 "parts_of_grain" sp_grain [] := by
  refine calD T.d_parts_of_grain sc_parts_of_grain (fun vs H Q E ⟨x, y, e, _⟩ => by rw [e]; rfl) fun f cdv A outer s H vs Q E hr h => ⟨_, (pss_cons (ps_if (PW.pt (pw_or (pt_cmpR op_eq (pv 0) pe_int (nomark _)) (pw_or1 (pt_cmpR op_eq (pv 1) pe_int (nomark _))))) (pss_one (ps_ret (pe_callB (call_max3 rfl) (by rfl) T.z_max (by decide +kernel) (pa_cons (pv 0) (pa_cons (pv 1) (pa_cons pe_int pa_nil)))))) pss_nil)
    (pss_one (ps_ret (C8.pe_c (c_multiple T) hr (by decide) (by rfl) (pa_cons (pv 0) (pa_cons (pv 1) pa_nil)))))), ?_⟩
  obtain ⟨x, y, rfl, h1, h2, h3, h4, q⟩ := h
  have mx : (∃ x' , (L2.start N_parts_of_grain [V.int x, V.int y])[0]? = some (some x') ∧ ∃ y', (L2.start N_parts_of_grain [V.int x, V.int y])[1]? = some (some y') ∧ ∃ i j k, [x', y', V.int 1] = [.int i, .int j, .int k] ∧ ∀ m, (m = i ∨ m = j ∨ m = k) → i ≤ m → j ≤ m → k ≤ m → ((x = 0 ∨ y = 0) → Q (.int m) H)) := by
    refine ⟨_, rfl, _, rfl, _, _, _, rfl, fun m hm a1 a2 a3 z => ?_⟩
    have e : grains x y = m := by
      unfold grains
      rw [if_pos z]
      omega
    rw [← e]
    exact q
  refine ⟨_, rfl, rfl, _, rfl, ?_⟩
  rw [dec_V]
  by_cases hx : x = 0
  · rw [show decide (x = 0) = true from decide_eq_true hx]
    refine ⟨_, rfl, _, rfl, _, _, _, rfl, fun m hm a1 a2 a3 => ?_⟩
    have e : grains x y = m := by
      unfold grains
      rw [if_pos (.inl hx)]
      omega
    rw [← e]
    exact q
  · rw [show decide (x = 0) = false from decide_eq_false hx]
    refine ⟨_, rfl, rfl, _, rfl, ?_⟩
    rw [dec_V]
    by_cases hy : y = 0
    · rw [show decide (y = 0) = true from decide_eq_true hy]
      refine ⟨_, rfl, _, rfl, _, _, _, rfl, fun m hm a1 a2 a3 => ?_⟩
      have e : grains x y = m := by
        unfold grains
        rw [if_pos (.inr hy)]
        omega
      rw [← e]
      exact q
    · rw [show decide (y = 0) = false from decide_eq_false hy]
      refine ⟨_, rfl, _, rfl, x, y, rfl, by omega, by omega, by omega, by omega, ?_⟩
      have e : grains x y = x / (Int.gcd x y : Int) * y := by
        unfold grains
        rw [if_neg (by omega)]
      rw [← e]
      exact q
abbrev s_in_grains : Stmt := top 41
abbrev N_in_grains : List Str := ["steps", "grains", "step"]
theorem sc_in_grains : FnScope N_in_grains ["steps", "grains"] (C8.fnScope s_in_grains) := C8.fnScope_by (by decide +kernel)
def sp_in_grains (K : PySem.W.Frag) : Sp := fun vs H Q _ => ∃ (v : V) (ss : List (Int × Int)) (g : Int), vs = [v, .int g] ∧ At K H (dSteps ss) v ∧ VSteps ss ∧ 0 < g ∧ g ≤ 144 ∧ ∀ a H', Ext H H' → Is K H' a (ss.map (unit g)) → Q (.ref a) H'
theorem c_in_grains (T : Txt K mg) : C8.Cal P w K mg base 3 "in_grains" (sp_in_grains K) [] := by
  refine calD T.d_in_grains sc_in_grains (fun vs H Q E ⟨p, ss, g, e, _⟩ => by rw [e]; rfl) fun f cdv A outer s H vs Q E hr h => ⟨_, (pss_one (ps_ret (pe_callTy call_tuple_of (by rfl) T.z_tuple (by decide +kernel) (pa_cons (pe_lc (own := [("step", 2)]) (g := (gName 2)) rfl sc_in_grains.nd (pi_tup (pv 0)) (blkOk_by (own := [("step", 2)]) (N := N_in_grains) (sc := C8.fnScope s_in_grains) (by decide +kernel)) (fun _ _ _ _ _ => (pg_name (i := 2) sc_in_grains.nd rfl (Or.inl rfl))) (fun _ _ _ _ _ => pts_nil) (fun _ _ _ _ _ => (C8.pe_c (c_next_whole T) hr (by decide) (by rfl) (pa_cons (C8.pe_c (c_made T) hr (by decide) (by rfl) (pa_cons (pe_op op_mul (pe_ix (ix_k (K := K) rfl) (pv 2) pe_int (fun _ _ => rfl)) (pv 1)) (pa_cons (pe_ix (ix_k (K := K) rfl) (pv 2) pe_int (fun _ _ => rfl)) pa_nil))) pa_nil)))) pa_nil)))), ?_⟩
  obtain ⟨v, ss, g, rfl, ha, ⟨l1, l2, hv, hs⟩, g1, g2, q⟩ := h
  obtain ⟨a, xs, rfl, hq, hx⟩ := ha
  have hl : xs.length = ss.length := by rw [hx.len, List.length_map]
  refine ⟨_, rfl, _, rfl, ⟨_, hq⟩, fun D hD => ?_⟩
  refine lcX (walk_tup (xs := xs)) hD (RFlat fun i => .int (unit g (ss.getD i (1, 1)))) rfl (fun H' e => e.sqT hq) (fun i x H1 H2 acc hi e h1 h2 h3 y => ?_) fun H1 acc e h1 h2 h3 => ?_
  · obtain ⟨rfl, y⟩ := y
    obtain ⟨d, hd, h⟩ := (hx.ext e).get y
    rw [List.getElem?_map] at hd
    cases es : ss[i]? with
    | none => rw [es] at hd; cases hd
    | some s =>
      rw [es] at hd
      obtain rfl : dStep s = d := Option.some.inj hd
      obtain ⟨p, rfl, hp⟩ := at_step h
      obtain ⟨v1, v2, v3, v4, v5⟩ := hv s (List.mem_of_getElem? es)
      have gp := gcd_pos (a := s.1 * g) (b := s.2) (by omega)
      have gl := gcd_le (a := s.1 * g) (b := s.2) (by omega)
      have b1 : 0 < s.2 / (Int.gcd (s.1 * g) s.2 : Int) := Int.ediv_pos_of_pos_of_dvd (by omega) (by omega) (Int.gcd_dvd_right _ _)
      have b2 : s.2 / (Int.gcd (s.1 * g) s.2 : Int) ≤ s.2 := Int.ediv_le_self _ (by omega)
      refine ⟨rfl, _, rfl, p, _, 0, _, rfl, rfl, .inr hp, rfl, _, rfl, _, _, rfl, rfl, .inr ⟨by omega, by omega⟩, _, rfl, p, _, 1, _, rfl, rfl, .inr hp, rfl, _, _, rfl, by omega, by omega, fun T hT => ?_⟩
      refine ⟨T, _, _, rfl, tupOf upd_same, by omega, by omega, ?_⟩
      refine lcFin hD ?_ h2 (small_line (by omega)) (e.trans (Ext.new hT)) (rflat h3 ?_)
      · rw [upd_ne (ne_of_none h1 hT)]
        exact h1
      · rw [List.getD_eq_getElem?_getD, es] <;> rfl
  · refine ⟨D, acc, rfl, .inl ⟨lstOf h1, fun T hT => ?_⟩⟩
    refine q T _ (e.trans (Ext.new hT)) ?_
    have e2 : acc = (ss.map (unit g)).map V.int := by
      rw [h3, hl, List.map_map]
      exact range_get ss _ _ fun i x hx => by rw [List.getD_eq_getElem?_getD, hx] <;> rfl
    show SqT K _ T ((ss.map (unit g)).map V.int)
    rw [← e2]
    exact tupOf upd_same
abbrev s_are_widths : Stmt := top 58
abbrev N_are_widths : List Str := ["thing", "item"]
theorem sc_are_widths : FnScope N_are_widths ["thing"] (C8.fnScope s_are_widths) := C8.fnScope_by (by decide +kernel)
def sp_are_widths (K : PySem.W.Frag) : Sp := fun vs H Q _ => ∃ (a : Addr) (ws : List Int), vs = [.ref a] ∧ Is K H a ws ∧ VWidths ws ∧ ∀ H', Ext H H' → Q (.bl true) H'
theorem c_are_widths (T : Txt K mg) : C8.Cal P w K mg base 4 "are_widths" (sp_are_widths K) [] := by
  refine calD T.d_are_widths sc_are_widths (fun vs H Q E ⟨a, ws, e, _⟩ => by rw [e]; rfl) fun f cdv A outer s H vs Q E hr h => ⟨_, (pss_cons (ps_if (PW.pt (pw_or (pt_not (pt_val (pe_callB call_isi (by rfl) T.z_isinstance (by decide +kernel) (pa_cons (pv 0) (pa_cons (pe_bltn (v := .ty "tuple") (by rfl) T.z_tuple (by decide +kernel) rfl) pa_nil))))) (pw_or1 (pt_not (pt_chain op_le op_le pe_int (pe_callB call_len_seq (by rfl) T.z_len (by decide +kernel) (pa_cons (pv 0) pa_nil)) (C8.pe_gc (by rfl) T.m_MOST_VESSELS)))))) (pss_one (ps_ret pe_bl)) pss_nil)
    (pss_one (ps_ret (pe_callB (cr_all rfl) (by rfl) T.z_all (by decide +kernel) (pa_cons (pe_lc (own := [("item", 1)]) (g := (gName 1)) rfl sc_are_widths.nd (pi_tup (pv 0)) (blkOk_by (own := [("item", 1)]) (N := N_are_widths) (sc := C8.fnScope s_are_widths) (by decide +kernel)) (fun _ _ _ _ _ => (pg_name (i := 1) sc_are_widths.nd rfl (Or.inl rfl))) (fun _ _ _ _ _ => pts_nil) (fun _ _ _ _ _ => (C8.pe_c (c_is_width T) hr (by decide) (by rfl) (pa_cons (pv 1) pa_nil)))) pa_nil))))), ?_⟩
  obtain ⟨a, ws, rfl, hq, ⟨l1, l2, hv⟩, q⟩ := h
  have hl : (ws.map V.int).length = ws.length := List.length_map _
  refine ⟨_, rfl, _, _, _, _, true, rfl, ClsV.ty _, (tyT hq), kit_ty (by decide +kernel), _, rfl, _, rfl, _, _, rfl, .inr hq, _, _, rfl, rfl, _, rfl, ?_⟩
  rw [show decide ((1 : Int) ≤ ((ws.map V.int).length : Nat)) = true from decide_eq_true (by omega)]
  refine ⟨_, _, rfl, rfl, _, rfl, ?_⟩
  show if (!decide ((((ws.map V.int).length : Nat) : Int) ≤ (12 : Int))) = true then _ else _
  rw [show decide ((((ws.map V.int).length : Nat) : Int) ≤ (12 : Int)) = true from decide_eq_true (by omega)]
  refine ⟨_, rfl, _, rfl, ⟨_, hq⟩, fun D hD => ?_⟩
  refine lcX (walk_tup (xs := ws.map .int)) hD (RFlat fun _ => .bl true) rfl (fun H' e => e.sqT hq) (fun i x H1 H2 acc hi e h1 h2 h3 y => ?_) fun H1 acc e h1 h2 h3 => ?_
  · obtain ⟨rfl, y⟩ := y
    rw [wd_at (by omega)] at y
    obtain rfl := Option.some.inj y
    have b := hv _ (wd_mem (ws := ws) (i := i) (by omega))
    exact ⟨rfl, _, rfl, _, rfl, b.1, b.2, lcFin hD h1 h2 (small_line (by omega)) e (rflat h3 rfl)⟩
  · refine ⟨_, (List.range (ws.map V.int).length).map fun _ => true, rfl, .inl (.inl ?_), ?_⟩
    · rw [h1, h3, List.map_map]
      rfl
    · rw [all_flat]
      exact q _ e
theorem at_pipe {H : Hp} {p : Pipe} {v : V} (h : At K H (dPipe p) v) : ∃ a u, v = .ref a ∧ SqT K H a [.int p.a, .int p.b, u] ∧ At K H (dSteps p.ss) u := by
  obtain ⟨a, xs, h1, h2, v1, r1, e1, h3, v2, r2, e2, h4, v3, r3, e3, h5, e4⟩ := h
  have h3 : v1 = .int p.a := h3
  have h4 : v2 = .int p.b := h4
  have e4 : r3 = [] := e4
  subst h3 h4 e4 e3 e2 e1
  exact ⟨a, v3, h1, h2, h5⟩
abbrev s_is_pipe : Stmt := top 59
abbrev N_is_pipe : List Str := ["thing", "many"]
theorem sc_is_pipe : FnScope N_is_pipe ["thing", "many"] (C8.fnScope s_is_pipe) := C8.fnScope_by (by decide +kernel)
def sp_is_pipe (K : PySem.W.Frag) : Sp := fun vs H Q _ => ∃ (v : V) (n : Nat) (p : Pipe), vs = [v, .int n] ∧ At K H (dPipe p) v ∧ VPipe n p ∧ ∀ H', Ext H H' → Q (.bl true) H'
theorem c_is_pipe (T : Txt K mg) : C8.Cal P w K mg base 5 "is_pipe" (sp_is_pipe K) [] := by
  refine calD T.d_is_pipe sc_is_pipe (fun vs H Q E ⟨a, n, p, e, _⟩ => by rw [e]; rfl) fun f cdv A outer s H vs Q E hr h => ⟨_, (pss_cons (ps_if (PW.pt (pw_or (pt_not (pt_val (C8.pe_c (c_is_triple T) hr (by decide) (by rfl) (pa_cons (pv 0) pa_nil)))) (pw_or1 (pt_not (pt_val (C8.pe_c (c_is_between T) hr (by decide) (by rfl) (pa_cons (pe_ix (ix_k (K := K) rfl) (pv 0) pe_int (fun _ _ => rfl)) (pa_cons pe_int (pa_cons (pe_op op_sub (pv 1) pe_int) pa_nil))))))))) (pss_one (ps_ret pe_bl)) pss_nil)
    (pss_one (ps_ret (pe_and (C8.pe_c (c_is_between T) hr (by decide) (by rfl) (pa_cons (pe_ix (ix_k (K := K) rfl) (pv 0) pe_int (fun _ _ => rfl)) (pa_cons (pe_op op_add (pe_ix (ix_k (K := K) rfl) (pv 0) pe_int (fun _ _ => rfl)) pe_int) (pa_cons (pe_op op_sub (pv 1) pe_int) pa_nil)))) (pe_one (C8.pe_c (c_is_list T) hr (by decide) (by rfl) (pa_cons (pe_ix (ix_k (K := K) rfl) (pv 0) pe_int (fun _ _ => rfl)) pa_nil))))))), ?_⟩
  obtain ⟨v, n, p, rfl, ha, ⟨v1, v2, v3⟩, q⟩ := h
  obtain ⟨a, u, rfl, hq, hu⟩ := at_pipe ha
  refine ⟨_, rfl, a, _, rfl, hq, _, rfl, _, rfl, a, _, 0, _, rfl, rfl, .inr hq, rfl, _, rfl, _, _, rfl, rfl, _, _, _, rfl, _, rfl, ?_⟩
  show if (!decide ((0 : Int) ≤ (p.a : Int) ∧ (p.a : Int) ≤ (n : Int) - 1)) = true then _ else _
  rw [show decide ((0 : Int) ≤ (p.a : Int) ∧ (p.a : Int) ≤ (n : Int) - 1) = true from decide_eq_true (by omega)]
  refine ⟨_, rfl, a, _, 1, _, rfl, rfl, .inr hq, rfl, _, rfl, a, _, 0, _, rfl, rfl, .inr hq, rfl, _, _, rfl, rfl, _, rfl, _, _, rfl, rfl, _, _, _, rfl, ?_⟩
  rw [show decide ((p.a : Int) + 1 ≤ (p.b : Int) ∧ (p.b : Int) ≤ (n : Int) - 1) = true from decide_eq_true (by omega)]
  exact ⟨_, rfl, _, rfl, a, _, 2, _, rfl, rfl, .inr hq, rfl, u, p.ss, rfl, hu, v3, q⟩
end
end K14
end
section
/-! 5. enumerate of a tuple; gauges, webs. -/
namespace K14
open PySem PySem.Spec PyProof.Rows L2 RZ
section
theorem meets_enum_tup (l : Addr) (items : Array Value) :
    Meets (Builtin.«enumerate.__new__» ⟨[.type "enumerate", .ref l], []⟩) (fun _ R s => s.heap.IsTuple l items ∧
      R (.ok (.ret (.ref (s.heap.push { cls := .type "tuple_iterator", data := .fields #[.ref l, .int 0 0] }).objs.size)))
        { s with heap := (s.heap.push { cls := .type "tuple_iterator", data := .fields #[.ref l, .int 0 0] }).push { cls := .type "enumerate", data := .fields #[.none, .bool false, .ref s.heap.objs.size, rawInt 0, .none, .none] } }) :=
  .of_wp fun prog w A R s h => by
    obtain ⟨hp, g, d, tk, os⟩ := s
    obtain ⟨hl, h⟩ := h
    have hsub := sub_enumerate
    have q1 : ∀ {A' : Around} {E : Value → Shared → Prop} {Q : Value → Shared → Prop}, Q (.ref hp.objs.size) ⟨hp.push { cls := .type "tuple_iterator", data := .fields #[.ref l, .int 0 0] }, g, d, tk, os⟩ → wpAny (model prog w) A' (pyIter (.ref l)) Q E ⟨hp, g, d, tk, os⟩ :=
      fun q => wpAny_pyIter_tuple hl q
    wp_walk using q1
    refine wpAny_stack_any fun st => wpAny_pure ?_
    split
    · rename_i c _ _ _ _ _
      cases (c == Value.type "enumerate")
      · wp_walk using q1
        exact ⟨_, rfl, h⟩
      · wp_walk using q1
        exact ⟨_, rfl, h⟩
    · wp_walk using q1
      exact ⟨_, rfl, h⟩
theorem enum_tuple {prog : Program} {w : World} {A : Around} {E : Value → Shared → Prop} {s : Shared} {l : Addr} {items : Array Value} {Q : Value → Shared → Prop} (hL : s.heap.IsTuple l items)
    (h : ∀ h', IsEnum h' (s.heap.objs.size + 1) s.heap.objs.size 0 .none → h'.IsTupleIter s.heap.objs.size l 0 → h'.objs.size = s.heap.objs.size + 2 → (∀ b o, s.heap.get? b = some o → h'.get? b = some o) → Q (.ref (s.heap.objs.size + 1)) { s with heap := h' }) :
    wpAny (model prog w) A (call (.type "enumerate") [.ref l]) Q E s := by
  refine callType_new F.called_enumerate (by decide) (F.typeCall_enumerate_1 _) (F.newCall_enumerate_1 _) (fun obj => F.args_object_init_2 obj _) F.entry_enumerate_new (meets_enum_tup l items) ⟨hL, ?_⟩
  have hz : (s.heap.push { cls := .type "tuple_iterator", data := .fields #[.ref l, .int 0 0] }).objs.size = s.heap.objs.size + 1 := Heap.size_push ..
  show _ ∧ _
  rw [hz]
  have he : IsEnum ((s.heap.push { cls := .type "tuple_iterator", data := .fields #[.ref l, .int 0 0] }).push { cls := .type "enumerate", data := .fields #[.none, .bool false, .ref s.heap.objs.size, rawInt 0, .none, .none] }) (s.heap.objs.size + 1) s.heap.objs.size 0 .none := by
    have := Heap.get?_push_size (s.heap.push { cls := .type "tuple_iterator", data := .fields #[.ref l, .int 0 0] }) (o := { cls := .type "enumerate", data := .fields #[.none, .bool false, .ref s.heap.objs.size, rawInt 0, .none, .none] }) rfl
    rw [hz] at this
    exact this
  exact ⟨⟨_, he, rfl⟩, h _ he ⟨_, Heap.get?_push_of_some _ (Heap.get?_push_size _ rfl), rfl, rfl⟩ (by rw [Heap.size_push, hz]) fun b o x => Heap.get?_push_of_some _ (Heap.get?_push_of_some _ x)⟩
/-- the tuple at a, each item in a new pair behind its place -/
def IteT (K : PySem.W.Frag) (a : Addr) : It :=
  ⟨fun i H => ∃ (xs : List V) (x : V), SqT K H a xs ∧ xs[i]? = some x, fun i H v H' => ∃ T x, v = .ref T ∧ H T = none ∧ H' = upd H T (.tup [.int (i : Nat), x]) ∧ ∀ xs, SqT K H a xs → xs[i]? = some x, fun i H => ∃ xs : List V, SqT K H a xs ∧ xs.length = i⟩
theorem turn_enumT {P : Program} {w : World} {K : PySem.W.Frag} {elts : List Expr} {kk : Nat} {tpos : Pos} (a e it : Addr) (hne : e ≠ it) (hai : a ≠ it) (hae : a ≠ e) :
    Turn P w K (.Tuple elts kk tpos) (IteT K a) [e, it] e (fun i h => (∃ old, IsEnum h e it (0 + (i : Int)) old) ∧ h.IsTupleIter it a i) where
  mem := by simp
  obj := fun i h st b hb => by
    obtain ⟨⟨old, he⟩, o, ho, hc, hd⟩ := st
    have e' : b = e ∨ b = it := by simpa using hb
    rcases e' with z | z
    · rw [z]; exact ⟨_, he, fun v q => nomatch q⟩
    · rw [z]; exact ⟨o, ho, fun v q => by rw [hd] at q; cases q⟩
  keep := fun i h h' st k => by
    obtain ⟨⟨old, he⟩, hi⟩ := st
    exact ⟨⟨old, k e (by simp) _ he⟩, hi.at fun o q => k it (by simp) o q⟩
  item := by
    intro X hP hw hK hc i pins s σ H E I hf st hg
    subst hP hw hK
    obtain ⟨he, hit⟩ := st
    obtain ⟨xs, x, hq, hx⟩ := hg
    obtain ⟨l1, r1, p1, z1⟩ := I.tuple hq
    have hh := I.ok.hd hc
    have W := GoesN.enumFrom (prog := X.prog) (w := X.w) (A := X.A) (elts := elts) (x1 := kk) (pos := tpos) 0 (Draws.tuple (A := X.A.in1) hh it a hai l1.toArray) e hne (by simp [hne, Ne.symm hae]) (by simp)
    have b1 := (List.getElem?_eq_some_iff.mp hx).1
    have m1 := r1.length
    refine W.goes i s _ E (by simp only [List.size_toArray]; omega) ⟨he, hit, p1⟩ fun u h' tk hY st' hk htk => ?_
    obtain ⟨T, t1, u1, rfl, hT, g1, tup⟩ := hY
    obtain ⟨w1, e1, rv1⟩ := r1.get hx
    have f1 : u1 = w1 := Option.some.inj (g1.symm.trans (by simpa using e1))
    subst f1
    obtain ⟨s1, s2⟩ := st'
    have new : ObjOk X.prog X.w (upd H T (.tup [.int (i : Nat), x])) h' T (.tup [.int (i : Nat), x]) :=
      ⟨by show 2 ≤ sizeLine; decide, [.int (0 + (i : Int)) t1, u1], .cons ⟨t1, by rw [Int.zero_add]⟩ (.cons rv1 .nil), tup⟩
    have lte : e < s.heap.objs.size := by obtain ⟨_, q⟩ := he; exact Heap.lt_size q
    have lti : it < s.heap.objs.size := by obtain ⟨_, q, _⟩ := hit; exact Heap.lt_size q
    have nT : ∀ d ∈ [e, it], d ≠ T := fun d hd => by
      have e' : d = e ∨ d = it := by simpa using hd
      rcases e' with q | q <;> rw [q]
      · exact Nat.ne_of_lt (Nat.lt_of_lt_of_le lte hT)
      · exact Nat.ne_of_lt (Nat.lt_of_lt_of_le lti hT)
    have I1 : Inv X pins σ (upd H T (.tup [.int (i : Nat), x])) { s with heap := h', toks := tk } := I.turnedNew (ch := [e, it]) (fun d o hb q => hk d o hb q) hf hT new
    exact ⟨.ref T, _, I1, rfl, ⟨T, x, rfl, I.hok.fresh hT, rfl, fun l hl => by rw [I.tuple_inj hl hq]; exact hx⟩, ⟨s1, s2.1⟩, fun d hd => by rw [upd_ne (nT d hd)]; exact (hf d hd).1⟩
  done := by
    intro X hP hw hK hc i pins s σ H E I hf st hg
    subst hP hw hK
    obtain ⟨he, hit⟩ := st
    obtain ⟨xs, hq, hx⟩ := hg
    obtain ⟨l1, r1, p1, z1⟩ := I.tuple hq
    have hh := I.ok.hd hc
    have W := GoesN.enumFrom (prog := X.prog) (w := X.w) (A := X.A) (elts := elts) (x1 := kk) (pos := tpos) 0 (Draws.tuple (A := X.A.in1) hh it a hai l1.toArray) e hne (by simp [hne, Ne.symm hae]) (by simp)
    have m1 := r1.length
    have hi : l1.toArray.size = i := by
      simp only [List.size_toArray]
      omega
    rw [← hi] at he hit
    refine wpAny_mono (W.stops s (fun s1 => Inv X pins σ H s1) E ⟨he, hit, p1⟩ fun h' tk hk htk => I.turnedL (t' := tk) (ch := [e, it]) (fun d o hb q => hk d o hb q) hf) (fun r s1 ⟨e1, e2⟩ => ⟨e1, e2⟩) fun _ _ z => z
  self := fun A i s Q E st h => by
    obtain ⟨⟨_, he⟩, _⟩ := st
    exact wpAny_pyIter_enum he h
def iEnumT (K : PySem.W.Frag) (ta : TA) : TI := fun σ H R => ta σ H fun vs H1 => ∃ a xs, vs = [.ref a] ∧ SqT K H1 a xs ∧ R (IteT K a) H1
theorem pi_enumT {X : Cx} {e : Expr} {ta : TA} {p pos tpos : Pos} {elts : List Expr} {kk : Nat} (hg : Gl X "enumerate") (hm : X.mg "enumerate" = none) (ha : PA X [e] ta) (hs : starEach [e] X.env = [(false, eval e X.env)] := by rfl) :
    PI X (.Tuple elts kk tpos) (.Call (.Name "enumerate" p) [e] [] pos) (iEnumT X.K ta) := by
  refine ⟨fun pins s σ H R I h => ?_⟩
  refine Call_ (ld_blt I hg hm boot_enumerate (PyProof.Rows.callWith_type1 (thn (ha.run pos pins s σ H _ I h) fun us s1 ⟨vs, H1, I1, r1, q1⟩ => ?_) hs rfl))
  obtain ⟨a, xs, ex, hq, q⟩ := q1
  subst ex
  cases r1 with
  | cons r rr =>
    cases rr
    cases r
    obtain ⟨l1, v1, p1, _⟩ := I1.tuple hq
    have la : a < s1.heap.objs.size := p1.lt
    refine enum_tuple p1 fun h' he hit hsz hk => wpAny_pyIter_enum he ?_
    have I2 : Inv X pins σ H1 { s1 with heap := h' } := I1.kept (t' := s1.toks) hk
    refine ⟨s1.heap.objs.size + 1, [s1.heap.objs.size + 1, s1.heap.objs.size], _, _, H1, rfl, I2, turn_enumT a (s1.heap.objs.size + 1) s1.heap.objs.size (Nat.succ_ne_self _) (Nat.ne_of_lt la) (Nat.ne_of_lt (Nat.lt_succ_of_lt la)), ⟨⟨.none, he⟩, hit⟩, fun b hb => ?_, q⟩
    have e' : b = s1.heap.objs.size + 1 ∨ b = s1.heap.objs.size := by simpa using hb
    have hle : s1.heap.objs.size ≤ b := by
      rcases e' with z | z
      · rw [z]; exact Nat.le_add_right _ _
      · rw [z]; exact Nat.le_refl _
    exact I1.fpOk hle (I1.hok.fresh hle)
theorem walk_enumT {K : PySem.W.Frag} {a : Addr} {xs : List V} : Walk (IteT K a) xs.length (fun H => SqT K H a xs) (YPair (fun i => some (.int (i : Nat))) (fun i => xs[i]?)) := by
  refine ⟨fun i _ hi q => ⟨xs, xs[i], q, by simp [hi]⟩, fun _ q => ⟨xs, q, rfl⟩, fun i H v H' _ q y => ?_⟩
  obtain ⟨T, x, h1, h2, h3, h4⟩ := y
  exact ⟨T, .int (i : Nat), x, h1, h2, h3, rfl, h4 xs q⟩
end
end K14
end
section
/-! 6. gauges, webs. -/
namespace K14
open PySem PySem.Spec PyProof.Rows L2 RZ
section
variable {P : Program} {w : World} {K : PySem.W.Frag} {mg : Str → Option Value} {base : Heap}
abbrev s_gauge : Stmt := top 60
abbrev N_gauge : List Str := ["widths", "pipe", "one", "other", "steps", "grains", "end", "factors"]
theorem sc_gauge : FnScope N_gauge ["widths", "pipe"] (C8.fnScope s_gauge) := C8.fnScope_by (by decide +kernel)
def sp_gauge (K : PySem.W.Frag) : Sp := fun vs H Q _ => ∃ (a : Addr) (v : V) (ws : List Int) (p : Pipe), vs = [.ref a, v] ∧ Is K H a ws ∧ VWidths ws ∧ At K H (dPipe p) v ∧ VPipe ws.length p ∧ ∀ v' H', Ext H H' → At K H' (dGauge ws p) v' → Q v' H'
theorem c_gauge (T : Txt K mg) : C8.Cal P w K mg base 4 "gauge" (sp_gauge K) [] := by
  refine calD T.d_gauge sc_gauge (fun vs H Q E ⟨a, v, ws, p, e, _⟩ => by rw [e]; rfl) fun f cdv A outer s H vs Q E hr h => ⟨_, (pss_cons (ps_asg (pv 1) (pg_tup (by rfl) (pgs_cons (pg_name (i := 2) sc_gauge.nd rfl (Or.inl rfl)) (pgs_cons (pg_name (i := 3) sc_gauge.nd rfl (Or.inl rfl)) (pgs_cons (pg_name (i := 4) sc_gauge.nd rfl (Or.inl rfl)) pgs_nil)))))
    (pss_cons (ps_set (i := 5) sc_gauge.nd rfl (Or.inr rfl) (C8.pe_c (c_parts_of_grain T) hr (by decide) (by rfl) (pa_cons (pe_ix (ix_k (K := K) rfl) (pv 0) (pv 2) (fun _ _ => rfl)) (pa_cons (pe_ix (ix_k (K := K) rfl) (pv 0) (pv 3) (fun _ _ => rfl)) pa_nil))))
    (pss_cons (ps_setLc (i := 7) (own := [("end", 6)]) (g := (gName 6)) rfl sc_gauge.nd rfl rfl (sw_true rfl rfl rfl (by decide +kernel)) (pi_tup (pe_tup (pa_cons (pv 2) (pa_cons (pv 3) pa_nil)))) (blkOk_by (own := [("end", 6)]) (N := N_gauge) (sc := C8.fnScope s_gauge) (by decide +kernel)) (fun _ _ _ _ _ => (pg_name (i := 6) sc_gauge.nd rfl (Or.inl rfl))) (fun _ _ _ _ _ => pts_nil) (fun _ _ _ _ _ => (pe_ifExp (pt_cmpR op_eq (pe_ix (ix_k (K := K) rfl) (pv 0) (pv 6) (fun _ _ => rfl)) pe_int (nomark _)) pe_int (pe_op op_fdiv (pv 5) (pe_ix (ix_k (K := K) rfl) (pv 0) (pv 6) (fun _ _ => rfl))))))
    (pss_one (ps_ret (pe_tup (pa_cons (pv 2) (pa_cons (pv 3) (pa_cons (pe_ix (ix_k (K := K) rfl) (pv 7) pe_int (fun _ _ => rfl)) (pa_cons (pe_ix (ix_k (K := K) rfl) (pv 7) pe_int (fun _ _ => rfl)) (pa_cons (C8.pe_c (c_in_grains T) hr (by decide) (by rfl) (pa_cons (pv 4) (pa_cons (pv 5) pa_nil))) (pa_cons (pv 5) pa_nil)))))))))))), ?_⟩
  obtain ⟨a, v, ws, p, rfl, hw, ⟨l1, l2, hv⟩, hp, ⟨v1, v2, v3⟩, q⟩ := h
  obtain ⟨b, u, rfl, hb, hu⟩ := at_pipe hp
  have ba := hv _ (wd_mem (ws := ws) (i := p.a) (by omega))
  have bb := hv _ (wd_mem (ws := ws) (i := p.b) (by omega))
  have ga := grains_pos ba.1 bb.1
  have gb := grains_le ba.1 bb.1 ba.2 bb.2
  have ixa : atI (ws.map V.int) (p.a : Int) = some (.int (wd ws p.a)) := atI_nat (wd_at (by omega))
  have ixb : atI (ws.map V.int) (p.b : Int) = some (.int (wd ws p.b)) := atI_nat (wd_at (by omega))
  refine ⟨_, rfl, b, _, rfl, hb, rfl, _, _, rfl, _, _, rfl, _, _, rfl, rfl, ?_⟩
  refine ⟨_, rfl, _, rfl, a, _, _, _, rfl, rfl, .inr hw, ixa, _, rfl, _, rfl, a, _, _, _, rfl, rfl, .inr hw, ixb, _, _, rfl, ba.1, ba.2, bb.1, bb.2, ?_⟩
  refine ⟨_, rfl, _, rfl, (by show 2 ≤ sizeLine; decide), fun T1 hT1 => ⟨T1, rfl, ⟨_, tupOf upd_same⟩, fun D hD => ?_⟩⟩
  have e1 : Ext H (upd H T1 (.tup [.int p.a, .int p.b])) := Ext.new hT1
  refine lcX (walk_tup (xs := [.int p.a, .int p.b])) hD (RFlat fun i => .int (fac (pg ws p) (wd ws (if i = 0 then p.a else p.b)))) rfl (fun H' e => e.sqT (tupOf upd_same)) (fun i x H1 H2 acc hi e h1 h2 h3 y => ?_) fun H1 acc e h1 h2 h3 => ?_
  · obtain ⟨rfl, y⟩ := y
    have hw1 := (e1.trans e).sqT hw
    have key : ∀ (j : Nat) (hj : x = .int (j : Int)) (hjl : j < ws.length) (hf : j = if i = 0 then p.a else p.b), gName 6 x (wipe ([some (V.ref a), some (.ref b), some (.int p.a), some (.int p.b), some u, some (.int (grains (wd ws p.a) (wd ws p.b))), none, none]) [6]) H2 fun σ2 H2 => wipe σ2 [6] = wipe ([some (V.ref a), some (.ref b), some (.int p.a), some (.int p.b), some u, some (.int (grains (wd ws p.a) (wd ws p.b))), none, none]) [6] ∧ tYes σ2 H2 fun b H3 => if b = true then tIf (tTest (tOp rEq (tOp (rIxQ K) (tVar 0) (tVar 6)) (tC (V.int 0)))) (tC (V.int 0)) (tOp (rI CDiv fun i j => V.int (i / j)) (tVar 5) (tOp (rIxQ K) (tVar 0) (tVar 6))) σ2 H3 fun y H4 =>
        ∃ acc, H4 D = some (HO.lst acc) ∧ acc.length < sizeLine ∧ LcP (upd H T1 (.tup [.int p.a, .int p.b])) D (RFlat fun i => .int (fac (pg ws p) (wd ws (if i = 0 then p.a else p.b)))) (i + 1) (upd H4 D (HO.lst (acc ++ [y]))) else LcP (upd H T1 (.tup [.int p.a, .int p.b])) D (RFlat fun i => .int (fac (pg ws p) (wd ws (if i = 0 then p.a else p.b)))) (i + 1) H3 := by
      intro j hj hjl hf
      subst hj
      have b1 := hv _ (wd_mem (ws := ws) (i := j) hjl)
      have ix : atI (ws.map V.int) (j : Int) = some (.int (wd ws j)) := atI_nat (wd_at hjl)
      refine ⟨rfl, _, rfl, _, rfl, a, _, _, _, rfl, rfl, .inr hw1, ix, rfl, _, rfl, ?_⟩
      rw [dec_V]
      have fin : ∀ y : V, y = .int (fac (pg ws p) (wd ws j)) → ∃ acc, H2 D = some (HO.lst acc) ∧ acc.length < sizeLine ∧ LcP (upd H T1 (.tup [.int p.a, .int p.b])) D (RFlat fun i => .int (fac (pg ws p) (wd ws (if i = 0 then p.a else p.b)))) (i + 1) (upd H2 D (HO.lst (acc ++ [y]))) := fun y hy =>
        lcFin hD h1 h2 (small_line (by have hi2 : i < 2 := hi; omega)) e (rflat h3 (by rw [hy, hf]))
      by_cases h0 : wd ws j = 0
      · rw [show decide (wd ws j = 0) = true from decide_eq_true h0]
        refine fin _ ?_
        unfold fac
        rw [if_pos h0]
      · rw [show decide (wd ws j = 0) = false from decide_eq_false h0]
        refine ⟨_, rfl, _, rfl, _, rfl, a, _, _, _, rfl, rfl, .inr hw1, ix, _, _, rfl, rfl, ⟨by omega, by omega⟩, fin _ ?_⟩
        unfold fac
        rw [if_neg h0]
        rfl
    cases i with
    | zero => exact key p.a (Option.some.inj y).symm (by omega) rfl
    | succ i =>
      cases i with
      | zero => exact key p.b (Option.some.inj y).symm (by omega) rfl
      | succ i => exact absurd hi (by show ¬ (i + 1 + 1 < 2); omega)
  · have ea : acc = [.int (fac (pg ws p) (wd ws p.a)), .int (fac (pg ws p) (wd ws p.b))] := h3
    subst ea
    refine ⟨_, rfl, _, rfl, _, rfl, D, _, 0, _, rfl, rfl, .inl (lstOf h1), rfl, _, rfl, D, _, 1, _, rfl, rfl, .inl (lstOf h1), rfl, _, rfl, _, rfl, u, p.ss, _, rfl, hu.ext (e1.trans e), v3, ga, gb, fun T H2 e2 hT => ?_⟩
    refine ⟨_, rfl, (by show 6 ≤ sizeLine; decide), fun T2 hT2 => q _ _ ((e1.trans e).trans (e2.trans (Ext.new hT2))) ?_⟩
    exact ⟨T2, _, rfl, tupOf upd_same, _, _, rfl, rfl, _, _, rfl, rfl, _, _, rfl, rfl, _, _, rfl, rfl, _, _, rfl, ints_at ((Ext.new hT2).sqT hT), _, _, rfl, rfl, rfl⟩
/-! ### tuples stay -/
def Tk (H H' : Hp) : Prop := (∀ b xs, H b = some (.tup xs) → H' b = some (.tup xs)) ∧ ∀ b o u, H b = some (.frz o u) → H' b = some (.frz o u)
theorem Ext.tk {H H' : Hp} (e : Ext H H') : Tk H H' := ⟨fun b xs h => e b _ h, fun b o u h => e b _ h⟩
theorem Tk.refl (H : Hp) : Tk H H := (Ext.refl H).tk
theorem Tk.trans {A B C : Hp} (a : Tk A B) (b : Tk B C) : Tk A C := ⟨fun x xs h => b.1 x xs (a.1 x xs h), fun x o u h => b.2 x o u (a.2 x o u h)⟩
/-- what may be written at: no tuple, nothing frozen -/
def Soft : HO → Prop
  | .tup _ => False
  | .frz _ _ => False
  | _ => True
theorem Tk.upd {H : Hp} {a : Addr} {o o' : HO} (h : H a = some o) (s : Soft o) : Tk H (L2.upd H a o') :=
  ⟨fun b xs e => by
    rw [upd_ne fun z => by rw [z, h] at e; cases e; exact s]
    exact e, fun b x u e => by
    rw [upd_ne fun z => by rw [z, h] at e; cases e; exact s]
    exact e⟩
theorem Tk.sqT {H H' : Hp} {a : Addr} {xs : List V} (e : Tk H H') (h : SqT K H a xs) : SqT K H' a xs := by
  rcases h with h | h
  · refine .inl ?_
    rcases h with h | ⟨o, h⟩
    · exact .inl (e.1 _ _ h)
    · exact .inr ⟨o, e.2 _ _ _ h⟩
  · exact .inr h
mutual
def pureD : D → Bool
  | .lst _ => false
  | .tup l => pureDs l
  | _ => true
def pureDs : List D → Bool
  | [] => true
  | d :: l => pureD d && pureDs l
end
mutual
theorem At.tk {H H' : Hp} (e : Tk H H') : ∀ {d : D} {v : V}, pureD d = true → At K H d v → At K H' d v
  | .non, _, _, h => h
  | .int _, _, _, h => h
  | .str _, _, _, h => h
  | .tup l, v, p, h => by
    obtain ⟨a, xs, h1, h2, h3⟩ := h
    exact ⟨a, xs, h1, e.sqT h2, Ats.tk e p h3⟩
  | .lst l, v, p, h => by cases p
theorem Ats.tk {H H' : Hp} (e : Tk H H') : ∀ {l : List D} {xs : List V}, pureDs l = true → Ats K H l xs → Ats K H' l xs
  | [], _, _, h => h
  | d :: l, xs, p, h => by
    obtain ⟨v, r, h1, h2, h3⟩ := h
    have p : (pureD d && pureDs l) = true := p
    obtain ⟨p1, p2⟩ := Bool.and_eq_true_iff.mp p
    exact ⟨v, r, h1, At.tk e p1 h2, Ats.tk e p2 h3⟩
end
theorem pures_of {α : Type} {f : α → D} (h : ∀ x, pureD (f x) = true) : ∀ l : List α, pureDs (l.map f) = true
  | [] => rfl
  | x :: l => by
    show (pureD (f x) && pureDs (l.map f)) = true
    rw [h x, pures_of h l] <;> rfl
theorem pure_ints (is : List Int) : pureD (dInts is) = true := pures_of (f := D.int) (fun _ => rfl) is
theorem pure_gauge (ws : List Int) (p : Pipe) : pureD (dGauge ws p) = true := by
  show (true && (true && (true && (true && (pureD (dInts (p.ss.map (unit (pg ws p)))) && (true && true)))))) = true
  rw [pure_ints] <;> rfl
theorem pure_step (s : Int × Int) : pureD (dStep s) = true := rfl
theorem pure_pipe (p : Pipe) : pureD (dPipe p) = true := by
  show (true && (true && (pureDs (p.ss.map dStep) && true))) = true
  rw [pures_of pure_step] <;> rfl
/-! ### the web -/
abbrev CW (K : PySem.W.Frag) : Addr := He.ga K "Web"
/-- the web at a: its widths' and pipes' tuples, its gauges -/
structure WebAt (K : PySem.W.Frag) (H : Hp) (a : Addr) (ws : List Int) (ps : List Pipe) : Prop where
  ex : ∃ (dx wa pa ga : Addr) (fs : List (Str × V)) (xs : List V), H a = some (.ins (CW K) dx fs) ∧ fs.lookup ("widths" : Str) = some (V.ref wa) ∧ fs.lookup ("pipes" : Str) = some (V.ref pa) ∧ fs.lookup ("gauges" : Str) = some (V.ref ga) ∧ Is K H wa ws ∧ At K H (.tup (ps.map dPipe)) (.ref pa) ∧ SqL K H ga xs ∧ Ats K H (ps.map (dGauge ws)) xs
theorem WebAt.ext {H H' : Hp} {a : Addr} {ws : List Int} {ps : List Pipe} (h : WebAt K H a ws ps) (e : Ext H H') : WebAt K H' a ws ps := by
  obtain ⟨dx, wa, pa, ga, fs, xs, h1, h2, h3, h4, h5, h6, h7, h8⟩ := h.ex
  exact ⟨dx, wa, pa, ga, fs, xs, e _ _ h1, h2, h3, h4, e.sqT h5, h6.ext e, e.sqL h7, h8.ext e⟩
def VPipes (ws : List Int) (ps : List Pipe) : Prop := ps.length ≤ 36 ∧ ∀ p ∈ ps, VPipe ws.length p
abbrev s_Web_begin : Stmt := inClass (top 61) 1
abbrev N_Web_begin : List Str := ["self", "widths", "pipes", "pipe"]
theorem sc_Web_begin : FnScope N_Web_begin ["self", "widths", "pipes"] (C8.fnScope s_Web_begin) := C8.fnScope_by (by decide +kernel)
def sp_begin (K : PySem.W.Frag) : Sp := fun vs H Q _ => ∃ (x dx a : Addr) (v : V) (ws : List Int) (ps : List Pipe), vs = [.ref x, .ref a, v] ∧ H x = some (.ins (CW K) dx []) ∧ Is K H a ws ∧ VWidths ws ∧ At K H (.tup (ps.map dPipe)) v ∧ VPipes ws ps ∧
  ∀ H', (∀ b o, H b = some o → b ≠ x → H' b = some o) → WebAt K H' x ws ps → Q .non H'
theorem m_begin (T : Txt K mg) : C8.Met P w K mg base 5 (CW K) "begin" (sp_begin K) [] := by
  refine metD T.c_Web T.e_Web_begin sc_Web_begin (fun vs H Q E ⟨x, dx, a, v, ws, p, e, _⟩ => by rw [e]; rfl) fun f cdv A outer s H vs Q E hr h => ⟨_, (pss_cons (ps_fld (pv 0) (pv 1) rfl)
    (pss_cons (ps_fld (pv 0) (pv 2) rfl)
    (pss_one (ps_fld (pv 0) (pe_lc (own := [("pipe", 3)]) (g := (gName 3)) rfl sc_Web_begin.nd (pi_tup (pv 2)) (blkOk_by (own := [("pipe", 3)]) (N := N_Web_begin) (sc := C8.fnScope s_Web_begin) (by decide +kernel)) (fun _ _ _ _ _ => (pg_name (i := 3) sc_Web_begin.nd rfl (Or.inl rfl))) (fun _ _ _ _ _ => pts_nil) (fun _ _ _ _ _ => (C8.pe_c (c_gauge T) hr (by decide) (by rfl) (pa_cons (pv 1) (pa_cons (pv 3) pa_nil))))) rfl)))), ?_⟩
  obtain ⟨x, dx, a, v, ws, ps, rfl, hx, hw, hvw, hp, hvp, q⟩ := h
  refine ⟨_, rfl, _, rfl, x, _, _, _, rfl, hx, T.c_Web, T.n_Web_widths, by decide, ?_⟩
  refine ⟨_, rfl, _, rfl, x, _, _, _, rfl, upd_same, T.c_Web, T.n_Web_pipes, (by show 1 < 1000; decide), ?_⟩
  have x1 : ∀ b o, H b = some o → b ≠ x → (upd (upd H x (.ins (CW K) dx (putF "widths" (.ref a) []))) x (.ins (CW K) dx (putF "pipes" v (putF "widths" (.ref a) [])))) b = some o := fun b o h n => by
    rw [upd_ne n, upd_ne n]
    exact h
  have t1 : Tk H (upd (upd H x (.ins (CW K) dx (putF "widths" (.ref a) []))) x (.ins (CW K) dx (putF "pipes" v (putF "widths" (.ref a) [])))) := (Tk.upd hx trivial).trans (Tk.upd upd_same trivial)
  obtain ⟨pa, xs, rfl, hpa, hps⟩ := hp
  have hl : xs.length = ps.length := by rw [hps.len, List.length_map]
  have pp : pureDs (ps.map dPipe) = true := pures_of pure_pipe ps
  have hpa1 := t1.sqT hpa
  have hps1 := hps.tk t1 pp
  refine ⟨_, rfl, _, rfl, ⟨_, hpa1⟩, fun D hD => ?_⟩
  refine lcX (walk_tup (xs := xs)) hD (fun i acc H => Ats K H ((ps.take i).map (dGauge ws)) acc) rfl (fun H' e => e.sqT hpa1) (fun i y H1 H2 acc hi e h1 h2 h3 hy => ?_) fun H1 acc e h1 h2 h3 => ?_
  · obtain ⟨rfl, hy⟩ := hy
    obtain ⟨d, hd, hat⟩ := (hps1.ext e).get hy
    rw [List.getElem?_map] at hd
    cases ep : ps[i]? with
    | none => rw [ep] at hd; cases hd
    | some p =>
      rw [ep] at hd
      obtain rfl : dPipe p = d := Option.some.inj hd
      refine ⟨rfl, _, rfl, _, rfl, a, y, ws, p, rfl, e.sqT (t1.sqT hw), hvw, hat, hvp.2 p (List.mem_of_getElem? ep), fun v' H3 e3 hv' => ?_⟩
      refine lcFin hD (e3 _ _ h1) h2 (small_line (by have := hvp.1; omega)) (e.trans e3) ?_
      rw [List.take_add_one, ep, List.map_append]
      have t3 : Tk H3 (upd H3 D (.lst (acc ++ [v']))) := Tk.upd (e3 _ _ h1) trivial
      exact Ats.snoc (((h3.ext e3)).tk t3 (pures_of (pure_gauge ws) _)) (hv'.tk t3 (pure_gauge ws p))
  · have hx1 := e _ _ (upd_same (H := upd H x (.ins (CW K) dx (putF "widths" (.ref a) []))) (a := x) (o := .ins (CW K) dx (putF "pipes" (.ref pa) (putF "widths" (.ref a) []))))
    refine ⟨_, rfl, x, _, _, _, rfl, hx1, T.c_Web, T.n_Web_gauges, (by show 2 < 1000; decide), ?_⟩
    have t2 : Tk H1 (upd H1 x (.ins (CW K) dx (putF "gauges" (.ref D) (putF "pipes" (.ref pa) (putF "widths" (.ref a) []))))) := Tk.upd hx1 trivial
    refine q _ (fun b o h n => by rw [upd_ne n]; exact e _ _ (x1 b o h n)) ⟨dx, a, pa, D, _, acc, upd_same, rfl, rfl, rfl, t2.sqT (e.sqT (t1.sqT hw)), ?_, ?_, ?_⟩
    · exact ⟨pa, xs, rfl, t2.sqT (e.sqT hpa1), (hps1.ext e).tk t2 pp⟩
    · refine lstOf ?_
      rw [upd_ne fun z => by rw [z, hx1] at h1; cases h1]
      exact h1
    · rw [show (ps.take xs.length) = ps by rw [hl, List.take_length]] at h3
      exact h3.tk t2 (pures_of (pure_gauge ws) _)
abbrev s_Web___init__ : Stmt := inClass (top 61) 0
abbrev N_Web___init__ : List Str := ["self", "widths", "pipes", "number", "pipe"]
theorem sc_Web___init__ : FnScope N_Web___init__ ["self", "widths", "pipes"] (C8.fnScope s_Web___init__) := C8.fnScope_by (by decide +kernel)
def sp_web (K : PySem.W.Frag) : Sp := fun vs H Q _ => ∃ (x dx a : Addr) (v : V) (ws : List Int) (ps : List Pipe), vs = [.ref x, .ref a, v] ∧ H x = some (.ins (CW K) dx []) ∧ Is K H a ws ∧ VWidths ws ∧ At K H (.tup (ps.map dPipe)) v ∧ VPipes ws ps ∧
  ∀ H', (∀ b o, H b = some o → b ≠ x → H' b = some o) → WebAt K H' x ws ps → Q .non H'
theorem c_mkWeb (T : Txt K mg) : C8.Mak P w K mg base 6 "Web" (CW K) (sp_web K) [] := by
  obtain ⟨f, fd, me, F, b⟩ := T.e_Web_init
  have ef : f = He.ma K (CW K) "__init__" := by
    have e1 := T.k_Web.init
    have e2 := me.at_
    rw [e1] at e2
    cases e2
    rfl
  refine C8.mak0 (f := f) (by rw [ef]; exact T.k_Web) T.g_Web F b .nil sc_Web___init__ (fun vs H Q E ⟨x, dx, a, v, ws, p, e, _⟩ => by rw [e]; rfl) fun cdv A outer s H vs Q E hr h => ⟨_, (pss_cons (ps_if (pt_not (pt_val (C8.pe_c (c_are_widths T) hr (by decide) (by rfl) (pa_cons (pv 1) pa_nil)))) (pss_one ps_never) pss_nil)
    (pss_cons (ps_if (PW.pt (pw_or (pt_not (pt_val (pe_callB call_isi (by rfl) T.z_isinstance (by decide +kernel) (pa_cons (pv 2) (pa_cons (pe_bltn (v := .ty "tuple") (by rfl) T.z_tuple (by decide +kernel) rfl) pa_nil))))) (pw_or1 (pt_cmpR op_gt (pe_callB call_len_seq (by rfl) T.z_len (by decide +kernel) (pa_cons (pv 2) pa_nil)) (C8.pe_gc (by rfl) T.m_MOST_PIPES) (nomark _))))) (pss_one ps_never) pss_nil)
    (pss_cons (ps_for PassesOwn.never rfl (pi_enumT (by rfl) T.z_enumerate (pa_cons (pv 2) pa_nil)) (pg_tup (by rfl) (pgs_cons (pg_name (i := 3) sc_Web___init__.nd rfl (Or.inl rfl)) (pgs_cons (pg_name (i := 4) sc_Web___init__.nd rfl (Or.inl rfl)) pgs_nil)))
      (pss_one (ps_if (pt_not (pt_val (C8.pe_c (c_is_pipe T) hr (by decide) (by rfl) (pa_cons (pv 4) (pa_cons (pe_callB call_len_seq (by rfl) T.z_len (by decide +kernel) (pa_cons (pv 1) pa_nil)) pa_nil))))) (pss_one ps_never) pss_nil)))
    (pss_one (ps_expr (C8.pe_mt (m_begin T) hr (by decide) (pv 0) (pa_cons (pv 1) (pa_cons (pv 2) pa_nil)))))))), ?_⟩
  obtain ⟨x, dx, a, v, ws, ps, rfl, hx, hw, hvw, hp, hvp, q⟩ := h
  obtain ⟨pa, xs, rfl, hpa, hps⟩ := hp
  have hl : xs.length = ps.length := by rw [hps.len, List.length_map]
  refine ⟨_, rfl, a, ws, rfl, hw, hvw, fun H1 e1 => ?_⟩
  have hpa1 := e1.sqT hpa
  refine ⟨_, rfl, _, rfl, _, _, _, _, true, rfl, ClsV.ty _, (tyT hpa1), kit_ty (by decide +kernel), _, rfl, _, rfl, _, _, rfl, .inr hpa1, _, _, rfl, rfl, _, rfl, ?_⟩
  show if decide ((36 : Int) < (xs.length : Nat)) = true then _ else _
  rw [show decide ((36 : Int) < (xs.length : Nat)) = false from decide_eq_false (by have := hvp.1; omega)]
  refine ⟨_, rfl, pa, xs, rfl, hpa1, ?_⟩
  refine for_it (walk_enumT (xs := xs)) (fun i σ H' => Ext H1 H' ∧ ∃ y z, σ = [some (.ref x), some (.ref a), some (.ref pa), y, z]) ⟨Ext.refl _, _, _, rfl⟩ (fun i σ H' _ ⟨e, _⟩ => e.sqT hpa1) (fun i y σ H2 H3 hi ⟨e, y1, z1, es⟩ hy => ?_) fun σ H2 ⟨e, y1, z1, es⟩ => ?_
  · subst es
    obtain ⟨T1, u1, u2, rfl, hT1, rfl, y2, y3⟩ := hy
    obtain rfl : V.int (i : Nat) = u1 := Option.some.inj y2
    have e2 : Ext H1 (upd H2 T1 (.tup [.int (i : Nat), u2])) := e.trans (Ext.new hT1)
    obtain ⟨d, hd, hat⟩ := (hps.ext (e1.trans e2)).get y3
    rw [List.getElem?_map] at hd
    cases ep : ps[i]? with
    | none => rw [ep] at hd; cases hd
    | some p =>
      rw [ep] at hd
      obtain rfl : dPipe p = d := Option.some.inj hd
      refine ⟨T1, _, rfl, tupOf upd_same, rfl, _, _, rfl, _, _, rfl, rfl, _, rfl, _, rfl, a, _, rfl, .inr ((e1.trans e2).sqT hw), u2, ws.length, p, ?_, hat, hvp.2 p (List.mem_of_getElem? ep), fun H4 e4 => ?_⟩
      · rw [List.length_map]
        rfl
      · exact ⟨_, rfl, e2.trans e4, _, _, rfl⟩
  · subst es
    have e2 := e1.trans e
    refine ⟨_, rfl, x, dx, _, rfl, e2 _ _ hx, rfl, _, rfl, _, rfl, x, dx, a, .ref pa, ws, ps, rfl, e2 _ _ hx, e2.sqT hw, hvw, ⟨pa, xs, rfl, e2.sqT hpa, hps.ext e2⟩, hvp, fun H4 h4 w4 => ?_⟩
    exact q _ (fun b o h n => h4 b o (e2 b o h) n) w4
end
end K14
end
section
/-! 7. fillings. -/
namespace K14
open PySem PySem.Spec PyProof.Rows L2 RZ
theorem op_inK {X : Cx} {K : PySem.W.Frag} (e : X.K = K) : OpR X (compareOp .In) (rIn K false) := by
  rw [← e]
  exact op_in_seq
theorem wipe_set {i : Nat} {o : Option V} : ∀ {ws : List Nat} {σ : L2.St}, i ∈ ws → wipe (σ.set i o) ws = wipe σ ws
  | j :: ws, σ, h => by
    show (wipe (σ.set i o) ws).set j none = (wipe σ ws).set j none
    by_cases hi : i ∈ ws
    · rw [wipe_set hi]
    · have e : i = j := by
        rcases List.mem_cons.mp h with z | z
        · exact z
        · exact absurd z hi
      subst e
      have key : ∀ (vs : List Nat) (τ : L2.St), i ∉ vs → wipe (τ.set i o) vs = (wipe τ vs).set i o := fun vs => by
        induction vs with
        | nil => exact fun _ _ => rfl
        | cons k vs ih =>
          intro τ hn
          show (wipe (τ.set i o) vs).set k none = ((wipe τ vs).set k none).set i o
          rw [ih τ fun z => hn (List.mem_cons_of_mem _ z), List.set_comm _ _ fun z => hn (by rw [z]; exact List.mem_cons_self ..)]
      rw [key ws σ hi, List.set_set]
theorem wipe_in : ∀ {us ws : List Nat} {σ : L2.St}, (∀ i ∈ us, i ∈ ws) → wipe (wipe σ us) ws = wipe σ ws
  | [], _, _, _ => rfl
  | i :: us, ws, σ, h => by
    show wipe ((wipe σ us).set i none) ws = wipe σ ws
    rw [wipe_set (h i (List.mem_cons_self ..)), wipe_in fun j hj => h j (List.mem_cons_of_mem _ hj)]
theorem wipe6 (σ : L2.St) (a b c d e f : Option V) : wipe (((((((wipe σ [2, 3, 4, 5, 6, 7]).set 2 a).set 3 b).set 4 c).set 5 d).set 6 e).set 7 f) [2, 3, 4, 5, 6, 7] = wipe σ [2, 3, 4, 5, 6, 7] := by
  rw [wipe_set (by decide), wipe_set (by decide), wipe_set (by decide), wipe_set (by decide), wipe_set (by decide), wipe_set (by decide), wipe_in fun _ h => h]
/-! ### the words of the mirror -/
def drop (ws : List Int) (f : List Int) (p : Pipe) : Int := wd f p.a * fac (pg ws p) (wd ws p.a) - wd f p.b * fac (pg ws p) (wd ws p.b)
def iabs (i : Int) : Int := if i < 0 then -i else i
def cnt (us : List Int) (n : Int) : Nat := (us.filter fun u => decide (u ≤ iabs n)).length
def runN (us : List Int) (n : Int) : Int := if 0 < n then (cnt us n : Int) else -(cnt us n : Int)
def flowP (ws f : List Int) (p : Pipe) : Int := runN (p.ss.map (unit (pg ws p))) (drop ws f p)
def inO (op : Option (List Int)) (k : Nat) : Bool := match op with
  | none => true
  | some l => l.any fun y => y == (k : Int)
def openN (op : Option (List Int)) (l : List Int) : List Int := (List.range l.length).map fun k => if inO op k = true then wd l k else 0
def netStep (l : List Int) (p : Pipe) (x : Int) : List Int := (l.set p.a (wd l p.a + x)).set p.b (wd (l.set p.a (wd l p.a + x)) p.b - x)
def nets (l : List Int) (ps : List Pipe) (xs : List Int) : Nat → List Int
  | 0 => l
  | k + 1 => match ps[k]? with
    | some p => netStep (nets l ps xs k) p (wd xs k)
    | none => nets l ps xs k
def netsN (n : Nat) (ps : List Pipe) (xs : List Int) : List Int := nets (List.replicate n 0) ps xs ps.length
def movedN (ws f ns : List Int) : List Int := (List.range ws.length).map fun k => if wd ws k = 0 then 0 else wd f k - wd ns k
def dOp : Option (List Int) → D
  | none => .non
  | some l => dInts l
def VOp (n : Nat) (op : Option (List Int)) : Prop := ∀ l, op = some l → lotB l (-1) n
def VFil (ws f : List Int) : Prop := f.length = ws.length ∧ ∀ k, k < ws.length → wd ws k = 0 → wd f k = 0
section
variable {P : Program} {w : World} {K : PySem.W.Frag} {mg : Str → Option Value} {base : Heap}
theorem at_op {H : Hp} {op : Option (List Int)} {v : V} (h : At K H (dOp op) v) : (op = none ∧ v = .non) ∨ ∃ l a, op = some l ∧ v = .ref a ∧ Is K H a l := by
  cases op with
  | none => exact .inl ⟨rfl, h⟩
  | some l =>
    obtain ⟨a, e, h⟩ := at_ints (is := l) h
    exact .inr ⟨l, a, rfl, e, h⟩
abbrev s_is_filling : Stmt := top 43
abbrev N_is_filling : List Str := ["web", "thing", "water", "width"]
theorem sc_is_filling : FnScope N_is_filling ["web", "thing"] (C8.fnScope s_is_filling) := C8.fnScope_by (by decide +kernel)
def sp_is_filling (K : PySem.W.Frag) : Sp := fun vs H Q _ => ∃ (wb a : Addr) (ws : List Int) (ps : List Pipe) (f : List Int), vs = [.ref wb, .ref a] ∧ WebAt K H wb ws ps ∧ ws.length ≤ 12 ∧ Is K H a f ∧ VFil ws f ∧ (∀ x ∈ ws, 0 ≤ x) ∧ ∀ H', Ext H H' → Q (.bl true) H'
theorem c_is_filling (T : Txt K mg) : C8.Cal P w K mg base 3 "is_filling" (sp_is_filling K) [] := by
  refine calD T.d_is_filling sc_is_filling (fun vs H Q E ⟨wb, a, ws, ps, f, e, _⟩ => by rw [e]; rfl) fun f cdv A outer s H vs Q E hr h => ⟨_, (pss_cons (ps_if (pt_not (pt_val (C8.pe_c (c_is_row T) hr (by decide) (by rfl) (pa_cons (pv 1) (pa_cons (pe_callB call_len_seq (by rfl) T.z_len (by decide +kernel) (pa_cons (pe_fld (pv 0) rfl) pa_nil)) pa_nil))))) (pss_one (ps_ret pe_bl)) pss_nil)
    (pss_one (ps_ret (pe_callB (cr_all rfl) (by rfl) T.z_all (by decide +kernel) (pa_cons (pe_lc (own := [("water", 2), ("width", 3)]) (g := (gTup K 2 (gCons (gName 2) (gCons (gName 3) gNil)))) rfl sc_is_filling.nd (pi_zipA (by rfl) T.z_zip (pa_cons (pv 1) (pa_cons (pe_fld (pv 0) rfl) pa_nil))) (blkOk_by (own := [("water", 2), ("width", 3)]) (N := N_is_filling) (sc := C8.fnScope s_is_filling) (by decide +kernel)) (fun _ _ _ _ _ => (pg_tup (by rfl) (pgs_cons (pg_name (i := 2) sc_is_filling.nd rfl (Or.inl rfl)) (pgs_cons (pg_name (i := 3) sc_is_filling.nd rfl (Or.inl rfl)) pgs_nil)))) (fun _ _ _ _ _ => pts_nil) (fun _ _ _ _ _ => (pe_or (pe_cmpR op_eq (pv 2) pe_int (nomark _)) (pe_one (pe_cmpR op_gt (pv 3) pe_int (nomark _)))))) pa_nil))))), ?_⟩
  obtain ⟨wb, a, ws, ps, f, rfl, hW, hl, hf, ⟨hfl, hf0⟩, hn, q⟩ := h
  obtain ⟨dx, wa, pa, ga, fs, xs, h1, f1, f2, f3, hw, hp, hg, hgs⟩ := hW.ex
  refine ⟨_, rfl, _, rfl, wb, _, dx, fs, _, rfl, h1, T.c_Web, T.n_Web_widths, f1, wa, _, rfl, .inr hw, a, f, ((ws.map V.int).length : Int), rfl, hf, by rw [List.length_map]; omega, by omega, fun H1 e1 => ?_⟩
  have hw1 := e1.sqT hw
  have hf1 := e1.sqT hf
  refine ⟨_, rfl, _, rfl, _, rfl, wb, _, dx, fs, _, rfl, e1 _ _ h1, T.c_Web, T.n_Web_widths, f1, a, wa, _, _, rfl, .inr ⟨hf1, hw1, fun D hD => ?_⟩⟩
  refine lcX (walk_zipT (xs := f.map V.int) (ys := ws.map V.int) (n := ws.length) (by rw [List.length_map, List.length_map]; omega)) hD (RFlat fun _ => .bl true) rfl (fun H' e' => ⟨e'.sqT hf1, e'.sqT hw1⟩) (fun i x H2 H3 acc hi e' h1 h2 h3 y => ?_) fun H2 acc e' h1 h2 h3 => ?_
  · obtain ⟨T2, x1, x2, rfl, hT2, rfl, y1, y2⟩ := y
    have y1 : (f.map V.int)[i]? = some x1 := y1
    have y2 : (ws.map V.int)[i]? = some x2 := y2
    rw [wd_at (by omega)] at y1 y2
    obtain rfl := Option.some.inj y1
    obtain rfl := Option.some.inj y2
    refine ⟨_, _, rfl, tupOf upd_same, rfl, _, _, rfl, _, _, rfl, rfl, rfl, _, rfl, rfl, ?_⟩
    rw [dec_V]
    have h1' : (upd H2 T2 (.tup [.int (wd f i), .int (wd ws i)])) D = some (.lst acc) := by
      rw [upd_ne (ne_of_none h1 hT2)]
      exact h1
    have fin := lcFin (R := RFlat fun _ => .bl true) (y := V.bl true) hD h1' h2 (small_line (by omega)) (e'.trans (Ext.new hT2)) (rflat h3 rfl)
    by_cases h0 : wd f i = 0
    · rw [show decide (wd f i = 0) = true from decide_eq_true h0]
      exact ⟨_, rfl, fin⟩
    · rw [show decide (wd f i = 0) = false from decide_eq_false h0]
      have h5 : wd ws i ≠ 0 := fun z => h0 (hf0 i hi z)
      have h6 := hn _ (wd_mem (ws := ws) (i := i) hi)
      refine ⟨_, rfl, _, rfl, _, _, rfl, rfl, ?_⟩
      have e7 : decide ((0 : Int) < wd ws i) = true := decide_eq_true (by omega)
      show ∃ acc, (upd H2 T2 (.tup [.int (wd f i), .int (wd ws i)])) D = some (.lst acc) ∧ acc.length < sizeLine ∧ LcP H1 D (RFlat fun _ => .bl true) (i + 1) (upd (upd H2 T2 (.tup [.int (wd f i), .int (wd ws i)])) D (.lst (acc ++ [.bl (decide ((0 : Int) < wd ws i))])))
      rw [e7]
      exact fin
  · refine ⟨_, (List.range ws.length).map fun _ => true, rfl, .inl (.inl ?_), ?_⟩
    · rw [h1, h3, List.map_map]
      rfl
    · rw [all_flat]
      exact q _ (e1.trans e')
abbrev s_check_filling : Stmt := top 44
abbrev N_check_filling : List Str := ["web", "thing"]
theorem sc_check_filling : FnScope N_check_filling ["web", "thing"] (C8.fnScope s_check_filling) := C8.fnScope_by (by decide +kernel)
def sp_check_filling (K : PySem.W.Frag) : Sp := fun vs H Q _ => ∃ (wb a : Addr) (ws : List Int) (ps : List Pipe) (f : List Int), vs = [.ref wb, .ref a] ∧ WebAt K H wb ws ps ∧ ws.length ≤ 12 ∧ Is K H a f ∧ VFil ws f ∧ (∀ x ∈ ws, 0 ≤ x) ∧ ∀ H', Ext H H' → Q .non H'
theorem c_check_filling (T : Txt K mg) : C8.Cal P w K mg base 4 "check_filling" (sp_check_filling K) [] := by
  refine calD T.d_check_filling sc_check_filling (fun vs H Q E ⟨wb, a, ws, ps, f, e, _⟩ => by rw [e]; rfl) fun f cdv A outer s H vs Q E hr h => ⟨_, (pss_one (ps_if (pt_not (pt_val (C8.pe_c (c_is_filling T) hr (by decide) (by rfl) (pa_cons (pv 0) (pa_cons (pv 1) pa_nil))))) (pss_one ps_never) pss_nil)), ?_⟩
  obtain ⟨wb, a, ws, ps, f, rfl, hW, hl, hf, hv, hn, q⟩ := h
  exact ⟨_, rfl, _, rfl, wb, a, ws, ps, f, rfl, hW, hl, hf, hv, hn, fun H1 e1 => ⟨_, rfl, q _ e1⟩⟩
abbrev s_check_opening : Stmt := top 45
abbrev N_check_opening : List Str := ["web", "thing"]
theorem sc_check_opening : FnScope N_check_opening ["web", "thing"] (C8.fnScope s_check_opening) := C8.fnScope_by (by decide +kernel)
def sp_check_opening (K : PySem.W.Frag) : Sp := fun vs H Q _ => ∃ (wb : Addr) (v : V) (ws : List Int) (ps : List Pipe) (op : Option (List Int)), vs = [.ref wb, v] ∧ WebAt K H wb ws ps ∧ At K H (dOp op) v ∧ VOp ps.length op ∧ Q .non H
theorem c_check_opening (T : Txt K mg) : C8.Cal P w K mg base 4 "check_opening" (sp_check_opening K) [] := by
  refine calD T.d_check_opening sc_check_opening (fun vs H Q E ⟨wb, a, ws, ps, f, e, _⟩ => by rw [e]; rfl) fun f cdv A outer s H vs Q E hr h => ⟨_, (pss_one (ps_if (PW.pt (pw_and (pt_cmpR op_notN (pv 1) pe_non (nomark _)) (pw_and1 (pt_not (pt_val (C8.pe_c (c_is_lot T) hr (by decide) (by rfl) (pa_cons (pv 1) (pa_cons (pe_callB call_len_seq (by rfl) T.z_len (by decide +kernel) (pa_cons (pe_fld (pv 0) rfl) pa_nil)) pa_nil)))))))) (pss_one ps_never) pss_nil)), ?_⟩
  obtain ⟨wb, v, ws, ps, op, rfl, hW, ho, hv, q⟩ := h
  obtain ⟨dx, wa, pa, ga, fs, xs, h1, f1, f2, f3, hw, ⟨pa', ys, e1, hp, hps⟩, hg, hgs⟩ := hW.ex
  cases e1
  rcases at_op ho with ⟨rfl, rfl⟩ | ⟨l, a, rfl, rfl, hl⟩
  · exact ⟨_, rfl, rfl, _, rfl, q⟩
  · refine ⟨_, rfl, rfl, _, rfl, _, rfl, _, rfl, wb, _, dx, fs, _, rfl, h1, T.c_Web, T.n_Web_pipes, f2, pa, ys, rfl, .inr hp, a, l, _, rfl, hl, ?_, _, rfl, q⟩
    rw [hps.len, List.length_map]
    exact hv l rfl
abbrev s_drops_in_grains : Stmt := top 46
abbrev N_drops_in_grains : List Str := ["web", "filling", "one", "other", "here", "there", "units", "grains"]
theorem sc_drops_in_grains : FnScope N_drops_in_grains ["web", "filling"] (C8.fnScope s_drops_in_grains) := C8.fnScope_by (by decide +kernel)
def sp_drops (K : PySem.W.Frag) : Sp := fun vs H Q _ => ∃ (wb a : Addr) (ws : List Int) (ps : List Pipe) (f : List Int), vs = [.ref wb, .ref a] ∧ WebAt K H wb ws ps ∧ VWidths ws ∧ VPipes ws ps ∧ Is K H a f ∧ f.length = ws.length ∧
  ∀ b H', Ext H H' → H' b = some (.lst ((ps.map (drop ws f)).map .int)) → Q (.ref b) H'
theorem fac_le {ws : List Int} {p : Pipe} {i : Nat} (hv : VWidths ws) (hp : VPipe ws.length p) (hi : i < ws.length) : 0 ≤ fac (pg ws p) (wd ws i) ∧ fac (pg ws p) (wd ws i) ≤ 144 := by
  have ba := hv.2.2 _ (wd_mem (ws := ws) (i := p.a) (by have := hp.1; have := hp.2.1; omega))
  have bb := hv.2.2 _ (wd_mem (ws := ws) (i := p.b) hp.2.1)
  have bi := hv.2.2 _ (wd_mem (ws := ws) (i := i) hi)
  have ga := grains_pos ba.1 bb.1
  have gb := grains_le ba.1 bb.1 ba.2 bb.2
  unfold fac pg
  split
  · omega
  · exact ⟨Int.ediv_nonneg (by omega) bi.1, Int.le_trans (Int.ediv_le_self _ (by omega)) gb⟩
theorem c_drops_in_grains (T : Txt K mg) : C8.Cal P w K mg base 1 "drops_in_grains" (sp_drops K) [] := by
  refine calD T.d_drops_in_grains sc_drops_in_grains (fun vs H Q E ⟨wb, a, ws, ps, f, e, _⟩ => by rw [e]; rfl) fun f cdv A outer s H vs Q E hr h => ⟨_, (pss_one (ps_ret (pe_lc (own := [("one", 2), ("other", 3), ("here", 4), ("there", 5), ("units", 6), ("grains", 7)]) (g := (gTup K 6 (gCons (gName 2) (gCons (gName 3) (gCons (gName 4) (gCons (gName 5) (gCons (gName 6) (gCons (gName 7) gNil)))))))) rfl sc_drops_in_grains.nd (pi_list (pe_fld (pv 0) rfl)) (blkOk_by (own := [("one", 2), ("other", 3), ("here", 4), ("there", 5), ("units", 6), ("grains", 7)]) (N := N_drops_in_grains) (sc := C8.fnScope s_drops_in_grains) (by decide +kernel)) (fun _ _ _ _ _ => (pg_tup (by rfl) (pgs_cons (pg_name (i := 2) sc_drops_in_grains.nd rfl (Or.inl rfl)) (pgs_cons (pg_name (i := 3) sc_drops_in_grains.nd rfl (Or.inl rfl)) (pgs_cons (pg_name (i := 4) sc_drops_in_grains.nd rfl (Or.inl rfl)) (pgs_cons (pg_name (i := 5) sc_drops_in_grains.nd rfl (Or.inl rfl)) (pgs_cons (pg_name (i := 6) sc_drops_in_grains.nd rfl (Or.inl rfl)) (pgs_cons (pg_name (i := 7) sc_drops_in_grains.nd rfl (Or.inl rfl)) pgs_nil)))))))) (fun _ _ _ _ _ => pts_nil) (fun _ _ _ _ _ => (pe_op op_sub (pe_op op_mul (pe_ix (ix_k (K := K) rfl) (pv 1) (pv 2) (fun _ _ => rfl)) (pv 4)) (pe_op op_mul (pe_ix (ix_k (K := K) rfl) (pv 1) (pv 3) (fun _ _ => rfl)) (pv 5))))))), ?_⟩
  obtain ⟨wb, a, ws, ps, f, rfl, hW, hv, hvp, hf, hfl, q⟩ := h
  obtain ⟨dx, wa, pa, ga, fs, xs, h1, f1, f2, f3, hw, hp, hg, hgs⟩ := hW.ex
  have hl : xs.length = ps.length := by rw [hgs.len, List.length_map]
  refine ⟨_, rfl, wb, _, dx, fs, _, rfl, h1, T.c_Web, T.n_Web_gauges, f3, ga, rfl, ⟨_, hg⟩, fun D hD => ?_⟩
  refine lcX (walk_list (xs := xs)) hD (RFlat fun i => .int (drop ws f (ps.getD i ⟨0, 0, []⟩))) rfl (fun H' e' => e'.sqL hg) (fun i x H2 H3 acc hi e' h1 h2 h3 y => ?_) fun H2 acc e' h1 h2 h3 => ?_
  · obtain ⟨rfl, y⟩ := y
    obtain ⟨d, hd, hat⟩ := (hgs.ext e').get y
    rw [List.getElem?_map] at hd
    cases ep : ps[i]? with
    | none => rw [ep] at hd; cases hd
    | some p =>
      rw [ep] at hd
      obtain rfl : dGauge ws p = d := Option.some.inj hd
      have vp := hvp.2 p (List.mem_of_getElem? ep)
      obtain ⟨g, ys, rfl, hg2, u1, r1, rfl, q1, u2, r2, rfl, q2, u3, r3, rfl, q3, u4, r4, rfl, q4, u5, r5, rfl, q5, u6, r6, rfl, q6, q7⟩ := hat
      have q1 : u1 = .int p.a := q1
      have q2 : u2 = .int p.b := q2
      have q3 : u3 = .int (fac (pg ws p) (wd ws p.a)) := q3
      have q4 : u4 = .int (fac (pg ws p) (wd ws p.b)) := q4
      have q6 : u6 = .int (pg ws p) := q6
      have q7 : r6 = [] := q7
      subst q1 q2 q3 q4 q6 q7
      have la : p.a < ws.length := Nat.lt_trans vp.1 vp.2.1
      have ixa : atI (f.map V.int) (p.a : Int) = some (.int (wd f p.a)) := atI_nat (wd_at (by omega))
      have ixb : atI (f.map V.int) (p.b : Int) = some (.int (wd f p.b)) := atI_nat (wd_at (by have := vp.2.1; omega))
      have ca := fac_le hv vp la
      have cb := fac_le hv vp vp.2.1
      refine ⟨g, _, rfl, hg2, rfl, _, _, rfl, _, _, rfl, _, _, rfl, _, _, rfl, _, _, rfl, _, _, rfl, rfl, wipe6 _ _ _ _ _ _ _, _, rfl, _, rfl, a, _, _, _, rfl, rfl, .inr (e'.sqT hf), ixa, _, rfl, _, _, rfl, rfl, .inr ⟨by omega, by omega⟩, _, rfl, _, rfl, a, _, _, _, rfl, rfl, .inr (e'.sqT hf), ixb, _, rfl, _, _, rfl, rfl, .inr ⟨by omega, by omega⟩, _, _, rfl, rfl, ?_⟩
      refine lcFin hD h1 h2 (small_line (by have := hvp.1; omega)) e' (rflat h3 ?_)
      rw [List.getD_eq_getElem?_getD, ep] <;> rfl
  · refine q _ _ e' ?_
    rw [h1, h3, hl]
    congr 2
    rw [List.map_map]
    exact range_get ps _ _ fun i x hx => by rw [List.getD_eq_getElem?_getD, hx] <;> rfl
end
end K14
end
section
/-! 8. flows, nets, what is moved. -/
namespace K14
open PySem PySem.Spec PyProof.Rows L2 RZ
section
variable {P : Program} {w : World} {K : PySem.W.Frag} {mg : Str → Option Value} {base : Heap}
abbrev s_runs_at : Stmt := top 47
abbrev N_runs_at : List Str := ["units", "number", "unit", "found"]
theorem sc_runs_at : FnScope N_runs_at ["units", "number"] (C8.fnScope s_runs_at) := C8.fnScope_by (by decide +kernel)
def sp_runs_at (K : PySem.W.Frag) : Sp := fun vs H Q _ => ∃ (a : Addr) (us : List Int) (n : Int), vs = [.ref a, .int n] ∧ Is K H a us ∧ us.length ≤ 6 ∧ ∀ H', Ext H H' → Q (.int (runN us n)) H'
theorem c_runs_at (T : Txt K mg) : C8.Cal P w K mg base 1 "runs_at" (sp_runs_at K) [] := by
  refine calD T.d_runs_at sc_runs_at (fun vs H Q E ⟨a, us, n, e, _⟩ => by rw [e]; rfl) fun f cdv A outer s H vs Q E hr h => ⟨_, (pss_cons (ps_set (i := 3) sc_runs_at.nd rfl (Or.inl rfl) (pe_callB call_len_seq (by rfl) T.z_len (by decide +kernel) (pa_cons (pe_lc (own := [("unit", 2)]) (g := (gName 2)) rfl sc_runs_at.nd (pi_tup (pv 0)) (blkOk_by (own := [("unit", 2)]) (N := N_runs_at) (sc := C8.fnScope s_runs_at) (by decide +kernel)) (fun _ _ _ _ _ => (pg_name (i := 2) sc_runs_at.nd rfl (Or.inl rfl))) (fun _ _ _ _ _ => (pts_one (pt_cmpR op_le (pv 2) (pe_callB call_abs (by rfl) T.z_abs (by decide +kernel) (pa_cons (pv 1) pa_nil)) (nomark _)))) (fun _ _ _ _ _ => (pv 2))) pa_nil)))
    (pss_one (ps_ret (pe_ifExp (pt_cmpR op_gt (pv 1) pe_int (nomark _)) (pv 3) (pe_un un_neg (pv 3)))))), ?_⟩
  obtain ⟨a, us, n, rfl, ha, hl, q⟩ := h
  refine ⟨_, rfl, a, rfl, ⟨_, ha⟩, fun D hD => ?_⟩
  refine lc_it (walk_tup (xs := us.map V.int)) (fun i H' => i ≤ us.length ∧ Ext H H' ∧ H' D = some (.lst (((us.take i).filter fun u => decide (u ≤ iabs n)).map V.int))) ⟨Nat.zero_le _, Ext.new hD, upd_same⟩ (fun i H' _ h => h.2.1.sqT ha) (fun i x H1 H2 hi ⟨h0, h1, h2⟩ y => ?_) fun H1 ⟨h0, h1, h2⟩ => ?_
  · obtain ⟨rfl, y⟩ := y
    have hi' : i < us.length := by rw [List.length_map] at hi; exact hi
    rw [wd_at hi'] at y
    obtain rfl := Option.some.inj y
    refine ⟨rfl, _, rfl, _, rfl, _, rfl, _, _, rfl, rfl, _, rfl, ?_⟩
    have et : us.take (i + 1) = us.take i ++ [wd us i] := by
      rw [List.take_add_one, List.getElem?_eq_getElem hi']
      unfold wd
      rw [List.getD_eq_getElem?_getD, List.getElem?_eq_getElem hi'] <;> rfl
    show if decide (wd us i ≤ iabs n) = true then _ else _
    by_cases hc : wd us i ≤ iabs n
    · rw [if_pos (decide_eq_true hc)]
      refine ⟨_, rfl, _, h2, ?_, hi', fun b o q => ?_, ?_⟩
      · have := List.length_filter_le (fun u => decide (u ≤ iabs n)) (us.take i)
        rw [List.length_map]
        have h3 := List.length_take_le i us
        exact small_line (by omega)
      · rw [upd_ne (ne_of_none q hD)]
        exact h1 b o q
      · rw [upd_same, et, List.filter_append, List.map_append]
        simp [hc]
    · rw [if_neg (fun z => hc (of_decide_eq_true z))]
      refine ⟨hi', h1, ?_⟩
      rw [h2, et, List.filter_append]
      simp [hc]
  · rw [show (us.map V.int).length = us.length from List.length_map _, List.take_length] at h2
    refine ⟨D, _, rfl, .inl (lstOf h2), ?_⟩
    rw [List.length_map]
    refine ⟨_, rfl, _, _, rfl, rfl, _, rfl, ?_⟩
    have e : (us.filter fun u => decide (u ≤ iabs n)).length = cnt us n := rfl
    rw [e]
    have qq := q _ h1
    unfold runN at qq
    show if decide ((0 : Int) < n) = true then _ else _
    by_cases hc : 0 < n
    · rw [if_pos (decide_eq_true hc)]
      rw [if_pos hc] at qq
      exact ⟨_, rfl, qq⟩
    · rw [if_neg (fun z => hc (of_decide_eq_true z))]
      rw [if_neg hc] at qq
      exact ⟨_, rfl, _, rfl, qq⟩
theorem walk_zip' {a b : Addr} {xs ys : List V} {n : Nat} (hn : n = min xs.length ys.length) : Walk (Itz K a b) n (fun H => SqL K H a xs ∧ SqL K H b ys) (YPair (fun i => xs[i]?) (fun i => ys[i]?)) := walk_zip hn
abbrev s_flows_of : Stmt := top 48
abbrev N_flows_of : List Str := ["web", "filling", "line", "number"]
theorem sc_flows_of : FnScope N_flows_of ["web", "filling"] (C8.fnScope s_flows_of) := C8.fnScope_by (by decide +kernel)
def sp_flows_of (K : PySem.W.Frag) : Sp := fun vs H Q _ => ∃ (wb a : Addr) (ws : List Int) (ps : List Pipe) (f : List Int), vs = [.ref wb, .ref a] ∧ WebAt K H wb ws ps ∧ VWidths ws ∧ VPipes ws ps ∧ Is K H a f ∧ f.length = ws.length ∧
  ∀ b H', Ext H H' → H' b = some (.lst ((ps.map (flowP ws f)).map .int)) → Q (.ref b) H'
theorem c_flows_of (T : Txt K mg) : C8.Cal P w K mg base 2 "flows_of" (sp_flows_of K) [] := by
  refine calD T.d_flows_of sc_flows_of (fun vs H Q E ⟨wb, a, ws, ps, f, e, _⟩ => by rw [e]; rfl) fun f cdv A outer s H vs Q E hr h => ⟨_, (pss_one (ps_ret (pe_lc (own := [("line", 2), ("number", 3)]) (g := (gTup K 2 (gCons (gName 2) (gCons (gName 3) gNil)))) rfl sc_flows_of.nd (pi_zip (by rfl) T.z_zip (pa_cons (pe_fld (pv 0) rfl) (pa_cons (C8.pe_c (c_drops_in_grains T) hr (by decide) (by rfl) (pa_cons (pv 0) (pa_cons (pv 1) pa_nil))) pa_nil))) (blkOk_by (own := [("line", 2), ("number", 3)]) (N := N_flows_of) (sc := C8.fnScope s_flows_of) (by decide +kernel)) (fun _ _ _ _ _ => (pg_tup (by rfl) (pgs_cons (pg_name (i := 2) sc_flows_of.nd rfl (Or.inl rfl)) (pgs_cons (pg_name (i := 3) sc_flows_of.nd rfl (Or.inl rfl)) pgs_nil)))) (fun _ _ _ _ _ => pts_nil) (fun _ _ _ _ _ => (C8.pe_c (c_runs_at T) hr (by decide) (by rfl) (pa_cons (pe_ix (ix_k (K := K) rfl) (pv 2) pe_int (fun _ _ => rfl)) (pa_cons (pv 3) pa_nil))))))), ?_⟩
  obtain ⟨wb, a, ws, ps, f, rfl, hW, hv, hvp, hf, hfl, q⟩ := h
  obtain ⟨dx, wa, pa, ga, fs, xs, h1, f1, f2, f3, hw, hp, hg, hgs⟩ := hW.ex
  have hl : xs.length = ps.length := by rw [hgs.len, List.length_map]
  refine ⟨_, rfl, wb, _, dx, fs, _, rfl, h1, T.c_Web, T.n_Web_gauges, f3, _, rfl, _, rfl, wb, a, ws, ps, f, rfl, hW, hv, hvp, hf, hfl, fun b H1 e1 hb => ?_⟩
  have hg1 := e1.sqL hg
  refine ⟨ga, b, _, _, rfl, hg1, lstOf hb, fun D hD => ?_⟩
  refine lcX (walk_zip' (xs := xs) (ys := (ps.map (drop ws f)).map V.int) (n := ps.length) (by rw [List.length_map, List.length_map]; omega)) hD (RFlat fun i => .int (flowP ws f (ps.getD i ⟨0, 0, []⟩))) rfl (fun H' e' => ⟨e'.sqL hg1, e'.sqL (lstOf hb)⟩) (fun i x H2 H3 acc hi e' h1 h2 h3 y => ?_) fun H2 acc e' h1 h2 h3 => ?_
  · obtain ⟨T2, x1, x2, rfl, hT2, rfl, y1, y2⟩ := y
    have e3 : Ext H1 (upd H2 T2 (.tup [x1, x2])) := e'.trans (Ext.new hT2)
    obtain ⟨d, hd, hat⟩ := (hgs.ext (e1.trans e3)).get y1
    rw [List.getElem?_map] at hd
    have y2 : ((ps.map (drop ws f)).map V.int)[i]? = some x2 := y2
    rw [List.getElem?_map, List.getElem?_map] at y2
    cases ep : ps[i]? with
    | none => rw [ep] at hd; cases hd
    | some p =>
      rw [ep] at hd y2
      obtain rfl : dGauge ws p = d := Option.some.inj hd
      obtain rfl : V.int (drop ws f p) = x2 := Option.some.inj y2
      have vp := hvp.2 p (List.mem_of_getElem? ep)
      obtain ⟨g, ys, rfl, hg2, u1, r1, rfl, q1, u2, r2, rfl, q2, u3, r3, rfl, q3, u4, r4, rfl, q4, u5, r5, rfl, q5, u6, r6, rfl, q6, q7⟩ := hat
      have q7 : r6 = [] := q7
      subst q7
      obtain ⟨ua, rfl, hu⟩ := at_ints q5
      refine ⟨_, _, rfl, tupOf upd_same, rfl, _, _, rfl, _, _, rfl, rfl, rfl, _, rfl, g, _, _, _, rfl, rfl, .inr hg2, rfl, _, rfl, ua, _, _, rfl, hu, by rw [List.length_map]; exact vp.2.2.2.1, fun H4 e4 => ?_⟩
      refine lcFin hD (e4 _ _ ?_) h2 (small_line (by have := hvp.1; omega)) (e3.trans e4) (rflat h3 ?_)
      · rw [upd_ne (ne_of_none h1 hT2)]
        exact h1
      · rw [List.getD_eq_getElem?_getD, ep] <;> rfl
  · refine q _ _ (e1.trans e') ?_
    rw [h1, h3]
    congr 2
    rw [List.map_map]
    exact range_get ps _ _ fun i x hx => by rw [List.getD_eq_getElem?_getD, hx] <;> rfl
theorem inV_ints {k : Nat} {l : List Int} : inV (.int (k : Int)) (l.map V.int) = l.any fun y => y == (k : Int) := by
  unfold inV
  rw [List.any_map]
  rfl
abbrev s_opened : Stmt := top 49
abbrev N_opened : List Str := ["numbers", "opening", "pipe", "number"]
theorem sc_opened : FnScope N_opened ["numbers", "opening"] (C8.fnScope s_opened) := C8.fnScope_by (by decide +kernel)
def sp_opened (K : PySem.W.Frag) : Sp := fun vs H Q _ => ∃ (b : Addr) (v : V) (xs : List Int) (op : Option (List Int)), vs = [.ref b, v] ∧ SqL K H b (xs.map .int) ∧ At K H (dOp op) v ∧ xs.length ≤ 36 ∧ ∀ b H', Ext H H' → H' b = some (.lst ((openN op xs).map .int)) → Q (.ref b) H'
theorem c_opened (T : Txt K mg) : C8.Cal P w K mg base 1 "opened" (sp_opened K) [] := by
  refine calD T.d_opened sc_opened (fun vs H Q E ⟨wb, a, ws, ps, e, _⟩ => by rw [e]; rfl) fun f cdv A outer s H vs Q E hr h => ⟨_, (pss_cons (ps_if (pt_cmpR op_isN (pv 1) pe_non (nomark _)) (pss_one (ps_ret (pe_callTy call_list_of (by rfl) T.z_list (by decide +kernel) (pa_cons (pv 0) pa_nil)))) pss_nil)
    (pss_one (ps_ret (pe_lc (own := [("pipe", 2), ("number", 3)]) (g := (gTup K 2 (gCons (gName 2) (gCons (gName 3) gNil)))) rfl sc_opened.nd (pi_enum (by rfl) T.z_enumerate (pa_cons (pv 0) pa_nil)) (blkOk_by (own := [("pipe", 2), ("number", 3)]) (N := N_opened) (sc := C8.fnScope s_opened) (by decide +kernel)) (fun _ _ _ _ _ => (pg_tup (by rfl) (pgs_cons (pg_name (i := 2) sc_opened.nd rfl (Or.inl rfl)) (pgs_cons (pg_name (i := 3) sc_opened.nd rfl (Or.inl rfl)) pgs_nil)))) (fun _ _ _ _ _ => pts_nil) (fun _ _ _ _ _ => (pe_ifExp (pt_cmpR (op_inK (K := K) rfl) (pv 2) (pv 1) (by rfl)) (pv 3) pe_int)))))), ?_⟩
  obtain ⟨b, v, xs, op, rfl, hb, ho, hl, q⟩ := h
  rcases at_op ho with ⟨rfl, rfl⟩ | ⟨l, a, rfl, rfl, ha⟩
  · refine ⟨_, rfl, rfl, _, rfl, _, rfl, b, _, rfl, .inl hb, fun D hD => q D _ (Ext.new hD) ?_⟩
    rw [upd_same]
    congr 2
    unfold openN
    rw [List.map_map]
    refine ((range_get xs _ _ fun i x hx => ?_).symm)
    show V.int (xs.getD i 0) = V.int x
    rw [List.getD_eq_getElem?_getD, hx] <;> rfl
  · refine ⟨_, rfl, rfl, _, rfl, _, rfl, b, _, rfl, hb, fun D hD => ?_⟩
    refine lcX (walk_enum (xs := xs.map V.int)) hD (RFlat fun i => .int (if inO (some l) i = true then wd xs i else 0)) rfl (fun H' e' => e'.sqL hb) (fun i x H2 H3 acc hi e' h1 h2 h3 y => ?_) fun H2 acc e' h1 h2 h3 => ?_
    · obtain ⟨T2, x1, x2, rfl, hT2, rfl, y1, y2⟩ := y
      have hi' : i < xs.length := by rw [List.length_map] at hi; exact hi
      have y1 : some (V.int (i : Nat)) = some x1 := y1
      have y2 : (xs.map V.int)[i]? = some x2 := y2
      rw [wd_at hi'] at y2
      obtain rfl := Option.some.inj y1
      obtain rfl := Option.some.inj y2
      have e3 : Ext H (upd H2 T2 (.tup [.int (i : Nat), .int (wd xs i)])) := e'.trans (Ext.new hT2)
      refine ⟨_, _, rfl, tupOf upd_same, rfl, _, _, rfl, _, _, rfl, rfl, rfl, _, rfl, _, rfl, a, _, rfl, .inr (e3.sqT ha), rfl, ?_, _, rfl, ?_⟩
      · rw [List.all_map]
        exact List.all_eq_true.mpr fun _ _ => rfl
      · have h1' : (upd H2 T2 (.tup [.int (i : Nat), .int (wd xs i)])) D = some (.lst acc) := by
          rw [upd_ne (ne_of_none h1 hT2)]
          exact h1
        have fin : ∀ y : V, y = .int (if inO (some l) i = true then wd xs i else 0) → ∃ acc, (upd H2 T2 (.tup [.int (i : Nat), .int (wd xs i)])) D = some (.lst acc) ∧ acc.length < sizeLine ∧ LcP H D (RFlat fun i => .int (if inO (some l) i = true then wd xs i else 0)) (i + 1) (upd (upd H2 T2 (.tup [.int (i : Nat), .int (wd xs i)])) D (.lst (acc ++ [y]))) :=
          fun y hy => lcFin hD h1' h2 (small_line (by omega)) e3 (rflat h3 hy)
        show if inV (.int (i : Nat)) (l.map V.int) = true then _ else _
        rw [inV_ints]
        by_cases hc : (l.any fun y => y == (i : Int)) = true
        · rw [if_pos hc]
          exact ⟨_, rfl, fin _ (by unfold inO; rw [if_pos hc])⟩
        · rw [if_neg hc]
          exact fin _ (by unfold inO; rw [if_neg hc])
    · refine q _ _ e' ?_
      rw [h1, h3, List.length_map]
      congr 2
      unfold openN
      rw [List.map_map]
      rfl
theorem set_ints {l : List Int} {i : Nat} {x : Int} : (l.map V.int).set i (.int x) = (l.set i x).map V.int := by
  rw [List.map_set]
theorem nets_len {n : Nat} {ps : List Pipe} {xs : List Int} : ∀ k, (nets (List.replicate n 0) ps xs k).length = n
  | 0 => by
    show (List.replicate n (0 : Int)).length = n
    simp
  | k + 1 => by
    unfold nets
    cases ps[k]? with
    | none => exact nets_len k
    | some p =>
      show (netStep _ p (wd xs k)).length = n
      unfold netStep
      rw [List.length_set, List.length_set, nets_len k]
theorem ixN_nat {n i : Nat} (h : i < n) : ixN n (i : Int) = some i := by
  unfold ixN
  rw [if_pos (by omega), if_pos (by omega)]
  all_goals rfl
abbrev s_nets_of : Stmt := top 50
abbrev N_nets_of : List Str := ["web", "numbers", "found", "one", "other", "steps", "number"]
theorem sc_nets_of : FnScope N_nets_of ["web", "numbers"] (C8.fnScope s_nets_of) := C8.fnScope_by (by decide +kernel)
def sp_nets_of (K : PySem.W.Frag) : Sp := fun vs H Q _ => ∃ (wb a : Addr) (ws : List Int) (ps : List Pipe) (xs : List Int), vs = [.ref wb, .ref a] ∧ WebAt K H wb ws ps ∧ VPipes ws ps ∧ Is K H a xs ∧ xs.length = ps.length ∧ ws.length ≤ 12 ∧
  ∀ b H', Ext H H' → H' b = some (.lst ((netsN ws.length ps xs).map .int)) → Q (.ref b) H'
theorem c_nets_of (T : Txt K mg) : C8.Cal P w K mg base 1 "nets_of" (sp_nets_of K) [] := by
  refine calD T.d_nets_of sc_nets_of (fun vs H Q E ⟨wb, a, ws, ps, f, e, _⟩ => by rw [e]; rfl) fun f cdv A outer s H vs Q E hr h => ⟨_, (pss_cons (ps_set (i := 2) sc_nets_of.nd rfl (Or.inl rfl) (pe_op op_rep (pe_lst (pa_cons pe_int pa_nil)) (pe_callB call_len_seq (by rfl) T.z_len (by decide +kernel) (pa_cons (pe_fld (pv 0) rfl) pa_nil))))
    (pss_cons (ps_for PassesOwn.never rfl (pi_zipA (by rfl) T.z_zip (pa_cons (pe_fld (pv 0) rfl) (pa_cons (pv 1) pa_nil))) (pg_tup (by rfl) (pgs_cons (pg_tup (by rfl) (pgs_cons (pg_name (i := 3) sc_nets_of.nd rfl (Or.inl rfl)) (pgs_cons (pg_name (i := 4) sc_nets_of.nd rfl (Or.inl rfl)) (pgs_cons (pg_name (i := 5) sc_nets_of.nd rfl (Or.inl rfl)) pgs_nil)))) (pgs_cons (pg_name (i := 6) sc_nets_of.nd rfl (Or.inl rfl)) pgs_nil)))
      (pss_cons (ps_augS (pv 2) (pv 3) get_list (pv 6) ip_add set_list)
    (pss_one (ps_augS (pv 2) (pv 4) get_list (pv 6) ip_sub set_list))))
    (pss_one (ps_ret (pv 2))))), ?_⟩
  obtain ⟨wb, a, ws, ps, xs, rfl, hW, hvp, ha, hl, hl2, q⟩ := h
  obtain ⟨dx, wa, pa, ga, fs, gs, h1, f1, f2, f3, hw, ⟨pa', ys, e1, hp, hps⟩, hg, hgs⟩ := hW.ex
  cases e1
  have hyl : ys.length = ps.length := by rw [hps.len, List.length_map]
  have la : ∀ p ∈ ps, p.a < ws.length ∧ p.b < ws.length := fun p hp => by
    have := hvp.2 p hp
    exact ⟨Nat.lt_trans this.1 this.2.1, this.2.1⟩
  refine ⟨by show 1 ≤ sizeLine; decide, fun L0 hL0 => ?_⟩
  have eA : Ext H (upd H L0 (.lst [.int 0])) := Ext.new hL0
  refine ⟨_, rfl, wb, _, dx, fs, _, rfl, eA _ _ h1, T.c_Web, T.n_Web_widths, f1, wa, _, rfl, .inr (eA.sqT hw), L0, _, _, rfl, rfl, upd_same, by omega, by rw [List.length_map]; omega, ?_, fun L hL => ?_⟩
  · rw [List.length_map, Int.toNat_natCast]
    exact Nat.le_of_lt (small_line (by show 1 * ws.length < 1000; omega))
  have eB : Ext H (upd (upd H L0 (.lst [.int 0])) L (.lst (List.replicate (((ws.map V.int).length : Nat) : Int).toNat [V.int 0]).flatten)) := eA.trans (Ext.new hL)
  have e0 : (List.replicate (((ws.map V.int).length : Nat) : Int).toNat [V.int 0]).flatten = (nets (List.replicate ws.length 0) ps xs 0).map V.int := by
    show _ = (List.replicate ws.length (0 : Int)).map V.int
    rw [List.length_map, Int.toNat_natCast, List.flatten_replicate_singleton, List.map_replicate]
  rw [e0] at eB ⊢
  refine ⟨_, rfl, wb, _, dx, fs, _, rfl, eB _ _ h1, T.c_Web, T.n_Web_pipes, f2, _, rfl, pa, a, ys, _, rfl, .inr ⟨eB.sqT hp, eB.sqT ha, ?_⟩⟩
  have hLH : H L = none := by
    cases z : H L with
    | none => rfl
    | some o => exact absurd (eA _ _ z) (by rw [hL]; simp)
  refine for_it (walk_zipT (xs := ys) (ys := xs.map V.int) (n := ps.length) (by rw [List.length_map]; omega)) (fun i σ H' => Ext H H' ∧ H' L = some (.lst ((nets (List.replicate ws.length 0) ps xs i).map V.int)) ∧ ∃ z1 z2 z3 z4, σ = [some (.ref wb), some (.ref a), some (.ref L), z1, z2, z3, z4]) ⟨eB, upd_same, _, _, _, _, rfl⟩ (fun i σ H' _ ⟨e, _⟩ => ⟨e.sqT hp, e.sqT ha⟩)
    (fun i x σ H2 H3 hi ⟨e, hL2, z1, z2, z3, z4, es⟩ y => ?_) fun σ H2 ⟨e, hL2, z1, z2, z3, z4, es⟩ => ?_
  · subst es
    obtain ⟨T2, x1, x2, rfl, hT2, rfl, y1, y2⟩ := y
    have e3 : Ext H (upd H2 T2 (.tup [x1, x2])) := e.trans (Ext.new hT2)
    obtain ⟨d, hd, hat⟩ := (hps.ext e3).get y1
    rw [List.getElem?_map] at hd
    have y2 : (xs.map V.int)[i]? = some x2 := y2
    rw [wd_at (by omega)] at y2
    obtain rfl := Option.some.inj y2
    cases ep : ps[i]? with
    | none => rw [ep] at hd; cases hd
    | some p =>
      rw [ep] at hd
      obtain rfl : dPipe p = d := Option.some.inj hd
      obtain ⟨pq, u, rfl, hq, hu⟩ := at_pipe hat
      have lp := la p (List.mem_of_getElem? ep)
      have hL3 : (upd H2 T2 (.tup [.ref pq, .int (wd xs i)])) L = some (.lst ((nets (List.replicate ws.length 0) ps xs i).map V.int)) := by
        rw [upd_ne (ne_of_none hL2 hT2)]
        exact hL2
      have nl := nets_len (n := ws.length) (ps := ps) (xs := xs) i
      refine ⟨_, _, rfl, tupOf upd_same, rfl, _, _, rfl, pq, _, rfl, hq, rfl, _, _, rfl, _, _, rfl, _, _, rfl, rfl, _, _, rfl, rfl, ?_⟩
      refine ⟨_, rfl, _, rfl, L, _, _, p.a, _, rfl, rfl, lstOf hL3, rfl, wd_at (by omega), _, rfl, _, _, rfl, rfl, L, _, _, p.a, rfl, rfl, hL3, ixN_nat (by rw [List.length_map, nl]; exact lp.1), ?_⟩
      refine ⟨_, rfl, _, rfl, L, _, _, p.b, .int (wd ((nets (List.replicate ws.length 0) ps xs i).set p.a (wd (nets (List.replicate ws.length 0) ps xs i) p.a + wd xs i)) p.b), rfl, rfl, lstOf upd_same, rfl, ?_, _, rfl, _, _, rfl, rfl, L, _, _, p.b, rfl, rfl, upd_same, ixN_nat (by rw [List.length_set, List.length_map, nl]; exact lp.2), ?_⟩
      · show (((nets (List.replicate ws.length 0) ps xs i).map V.int).set p.a (.int (wd (nets (List.replicate ws.length 0) ps xs i) p.a + wd xs i)))[p.b]? = _
        rw [set_ints]
        exact wd_at (by rw [List.length_set]; omega)
      · rw [upd_upd]
        refine ⟨fun b o q => ?_, ?_, _, _, _, _, rfl⟩
        · rw [upd_ne (ne_of_none q hLH)]
          exact e3 b o q
        · rw [upd_same]
          congr 2
          show (((nets (List.replicate ws.length 0) ps xs i).map V.int).set p.a (.int (wd (nets (List.replicate ws.length 0) ps xs i) p.a + wd xs i))).set p.b (.int (wd ((nets (List.replicate ws.length 0) ps xs i).set p.a (wd (nets (List.replicate ws.length 0) ps xs i) p.a + wd xs i)) p.b - wd xs i)) = (nets (List.replicate ws.length 0) ps xs (i + 1)).map V.int
          rw [set_ints, set_ints]
          show _ = (match ps[i]? with | some p => netStep (nets (List.replicate ws.length 0) ps xs i) p (wd xs i) | none => nets (List.replicate ws.length 0) ps xs i).map V.int
          rw [ep] <;> rfl
  · subst es
    exact ⟨_, rfl, q _ _ e hL2⟩
abbrev s_moved : Stmt := top 51
abbrev N_moved : List Str := ["web", "filling", "numbers", "nets", "width", "water", "net"]
theorem sc_moved : FnScope N_moved ["web", "filling", "numbers"] (C8.fnScope s_moved) := C8.fnScope_by (by decide +kernel)
def sp_moved (K : PySem.W.Frag) : Sp := fun vs H Q _ => ∃ (wb a b : Addr) (ws : List Int) (ps : List Pipe) (f xs : List Int), vs = [.ref wb, .ref a, .ref b] ∧ WebAt K H wb ws ps ∧ VPipes ws ps ∧ Is K H a f ∧ f.length = ws.length ∧ Is K H b xs ∧ xs.length = ps.length ∧ ws.length ≤ 12 ∧
  ∀ b H', Ext H H' → Is K H' b (movedN ws f (netsN ws.length ps xs)) → Q (.ref b) H'
theorem c_moved (T : Txt K mg) : C8.Cal P w K mg base 2 "moved" (sp_moved K) [] := by
  refine calD T.d_moved sc_moved (fun vs H Q E ⟨wb, a, b, ws, ps, f, xs, e, _⟩ => by rw [e]; rfl) fun f cdv A outer s H vs Q E hr h => ⟨_, (pss_cons (ps_set (i := 3) sc_moved.nd rfl (Or.inl rfl) (C8.pe_c (c_nets_of T) hr (by decide) (by rfl) (pa_cons (pv 0) (pa_cons (pv 2) pa_nil))))
    (pss_one (ps_ret (pe_callTy call_tuple_of (by rfl) T.z_tuple (by decide +kernel) (pa_cons (pe_lc (own := [("width", 4), ("water", 5), ("net", 6)]) (g := (gTup K 3 (gCons (gName 4) (gCons (gName 5) (gCons (gName 6) gNil))))) rfl sc_moved.nd (pi_zip3 (by rfl) T.z_zip (pa_cons (pe_fld (pv 0) rfl) (pa_cons (pv 1) (pa_cons (pv 3) pa_nil)))) (blkOk_by (own := [("width", 4), ("water", 5), ("net", 6)]) (N := N_moved) (sc := C8.fnScope s_moved) (by decide +kernel)) (fun _ _ _ _ _ => (pg_tup (by rfl) (pgs_cons (pg_name (i := 4) sc_moved.nd rfl (Or.inl rfl)) (pgs_cons (pg_name (i := 5) sc_moved.nd rfl (Or.inl rfl)) (pgs_cons (pg_name (i := 6) sc_moved.nd rfl (Or.inl rfl)) pgs_nil))))) (fun _ _ _ _ _ => pts_nil) (fun _ _ _ _ _ => (pe_ifExp (pt_cmpR op_eq (pv 4) pe_int (nomark _)) pe_int (pe_op op_sub (pv 5) (pv 6))))) pa_nil))))), ?_⟩
  obtain ⟨wb, a, b, ws, ps, f, xs, rfl, hW, hvp, ha, hfl, hb, hl, hl2, q⟩ := h
  obtain ⟨dx, wa, pa, ga, fs, gs, h1, f1, f2, f3, hw, hp, hg, hgs⟩ := hW.ex
  refine ⟨_, rfl, _, rfl, wb, b, ws, ps, xs, rfl, hW, hvp, hb, hl, hl2, fun L H1 e1 hL => ?_⟩
  have nl : (netsN ws.length ps xs).length = ws.length := nets_len _
  refine ⟨_, rfl, wb, _, dx, fs, _, rfl, e1 _ _ h1, T.c_Web, T.n_Web_widths, f1, _, rfl, _, rfl, wa, a, L, _, _, _, rfl, e1.sqT hw, e1.sqT ha, lstOf hL, fun D hD => ?_⟩
  refine lcX (walk_zip3 (xs := ws.map V.int) (ys := f.map V.int) (zs := (netsN ws.length ps xs).map V.int) (by rw [List.length_map, List.length_map]; exact hfl) (by rw [List.length_map, List.length_map]; exact nl)) hD (RFlat fun k => .int (if wd ws k = 0 then 0 else wd f k - wd (netsN ws.length ps xs) k)) rfl (fun H' e' => ⟨e'.sqT (e1.sqT hw), e'.sqT (e1.sqT ha), e'.sqL (lstOf hL)⟩) (fun i x H2 H3 acc hi e' h1 h2 h3 y => ?_) fun H2 acc e' h1 h2 h3 => ?_
  · obtain ⟨T2, x1, x2, x3, rfl, hT2, rfl, y1, y2, y3⟩ := y
    have hi' : i < ws.length := by rw [List.length_map] at hi; exact hi
    rw [wd_at (by omega)] at y1 y2 y3
    obtain rfl := Option.some.inj y1
    obtain rfl := Option.some.inj y2
    obtain rfl := Option.some.inj y3
    have e3 := e'.trans (Ext.new (o := .tup [.int (wd ws i), .int (wd f i), .int (wd (netsN ws.length ps xs) i)]) hT2)
    have h1' : (upd H2 T2 (.tup [.int (wd ws i), .int (wd f i), .int (wd (netsN ws.length ps xs) i)])) D = some (.lst acc) := by
      rw [upd_ne (ne_of_none h1 hT2)]
      exact h1
    refine ⟨_, _, rfl, tupOf upd_same, rfl, _, _, rfl, _, _, rfl, _, _, rfl, rfl, rfl, _, rfl, rfl, _, rfl, ?_⟩
    rw [dec_V]
    by_cases h0 : wd ws i = 0
    · rw [show decide (wd ws i = 0) = true from decide_eq_true h0]
      exact lcFin hD h1' h2 (small_line (by omega)) e3 (rflat h3 (by rw [if_pos h0]))
    · rw [show decide (wd ws i = 0) = false from decide_eq_false h0]
      refine ⟨_, rfl, _, rfl, _, _, rfl, rfl, lcFin hD h1' h2 (small_line (by omega)) e3 (rflat h3 (by rw [if_neg h0]))⟩
  · refine ⟨D, acc, rfl, .inl ⟨lstOf h1, fun T2 hT2 => q T2 _ ((e1.trans e').trans (Ext.new hT2)) ?_⟩⟩
    have e2 : acc = (movedN ws f (netsN ws.length ps xs)).map V.int := by
      rw [h3, List.length_map]
      unfold movedN
      rw [List.map_map]
      rfl
    show SqT K _ T2 ((movedN ws f (netsN ws.length ps xs)).map V.int)
    rw [← e2]
    exact tupOf upd_same
def numsN (ws : List Int) (ps : List Pipe) (f : List Int) (op : Option (List Int)) : List Int := openN op (ps.map (flowP ws f))
abbrev s_running : Stmt := top 52
abbrev N_running : List Str := ["web", "filling", "opening"]
theorem sc_running : FnScope N_running ["web", "filling", "opening"] (C8.fnScope s_running) := C8.fnScope_by (by decide +kernel)
def sp_running (K : PySem.W.Frag) : Sp := fun vs H Q _ => ∃ (wb a : Addr) (v : V) (ws : List Int) (ps : List Pipe) (f : List Int) (op : Option (List Int)), vs = [.ref wb, .ref a, v] ∧ WebAt K H wb ws ps ∧ VWidths ws ∧ VPipes ws ps ∧ Is K H a f ∧ VFil ws f ∧ At K H (dOp op) v ∧ VOp ps.length op ∧
  ∀ b H', Ext H H' → H' b = some (.lst ((numsN ws ps f op).map .int)) → Q (.ref b) H'
theorem c_running (T : Txt K mg) : C8.Cal P w K mg base 5 "running" (sp_running K) [] := by
  refine calD T.d_running sc_running (fun vs H Q E ⟨wb, a, b, ws, ps, f, xs, e, _⟩ => by rw [e]; rfl) fun f cdv A outer s H vs Q E hr h => ⟨_, (pss_cons (ps_expr (C8.pe_c (c_check_filling T) hr (by decide) (by rfl) (pa_cons (pv 0) (pa_cons (pv 1) pa_nil))))
    (pss_cons (ps_expr (C8.pe_c (c_check_opening T) hr (by decide) (by rfl) (pa_cons (pv 0) (pa_cons (pv 2) pa_nil))))
    (pss_one (ps_ret (C8.pe_c (c_opened T) hr (by decide) (by rfl) (pa_cons (C8.pe_c (c_flows_of T) hr (by decide) (by rfl) (pa_cons (pv 0) (pa_cons (pv 1) pa_nil))) (pa_cons (pv 2) pa_nil))))))), ?_⟩
  obtain ⟨wb, a, v, ws, ps, f, op, rfl, hW, hv, hvp, ha, hf, ho, hvo, q⟩ := h
  refine ⟨_, rfl, _, rfl, wb, a, ws, ps, f, rfl, hW, hv.2.1, ha, hf, fun x hx => (hv.2.2 x hx).1, fun H1 e1 => ?_⟩
  refine ⟨_, rfl, _, rfl, wb, v, ws, ps, op, rfl, hW.ext e1, ho.ext e1, hvo, ?_⟩
  refine ⟨_, rfl, _, rfl, wb, a, ws, ps, f, rfl, hW.ext e1, hv, hvp, e1.sqT ha, hf.1, fun b H2 e2 hb => ?_⟩
  refine ⟨_, rfl, b, v, _, op, rfl, lstOf hb, ho.ext (e1.trans e2), by rw [List.length_map]; exact hvp.1, fun b2 H3 e3 hb2 => q b2 _ ((e1.trans e2).trans e3) hb2⟩
end
end K14
end
section
/-! The package's own errors: __init__ with super(), the making, the raise. -/
namespace K14
open PySem PySem.Spec PyProof.Rows L2 NdefX K14H
/-- what is asked of the program's file and of its top names -/
structure PFile (P : Program) : Prop where
  file : ((P.main.file : Str) == mainFile) = true
  sup : (P.main.scope.names.lookup ("super" : Str)).isSome = false
section
open PySem.W
variable {P : Program} {w : World} {A : Around} {E : Value → Shared → Prop} {h : Heap} {g : Array GenState} {d : Drawn} {t : Nat} {os : OsState}
variable {nm q : Str} {C N : Addr} {bs bm : List Value} {hdct : Bool} {sn : List Str} {sub : List Value} {ab : Bool} {col : Option Bool} {dd : Option Addr} {k0 k1 k2 k3 k5 : Option Value}
/-- the bound ValueError.__init__ called -/
theorem call_mw {u e t0 : Addr} {rest : List Value} {Q : Value → Shared → Prop} (hC : h.get? C = some (excClassObj nm q C N bs bm hdct sn sub ab col dd k0 k1 k2 k3 k5 "ValueError.__new__")) (he : h.get? e = some (HandSPX.excO C t0)) (hu : h.get? u = some (kxs_mw "ValueError.__init__" e)) (hz : rest.length ≤ sizeLine)
    (hq : ∀ h' t1, (∀ b o, b ≠ e → h.get? b = some o → h'.get? b = some o) → h'.get? e = some (HandSPX.excO C t1) → Q .none ⟨h', g, d, t, os⟩) : wpAny (model P w) A (call (.ref u) rest) Q E ⟨h, g, d, t, os⟩ := by
  have FV := F.excBase_ValueError
  refine wpAny_call (codeAny_of_tree ?_)
  show wpAny _ A.in1 (callAny (.ref u) (⟨rest, []⟩ : Args)) _ _ _
  simp only [callAny]
  refine wpAny_bind (wpAny_load hu ?_)
  have et : (Value.type "method-wrapper" == Value.type "method" || Value.type "method-wrapper" == Value.type "builtin_function_or_method" || Value.type "method-wrapper" == Value.type "method-wrapper") = true := by decide
  simp only [kxs_mw, et, if_true]
  refine W.KFB.if_so (show _ from by decide) ?_
  refine wpAny_bind (check_bound_init (h := h) FV.toExcCallFacts hC he rfl ?_)
  refine wpAny_bind (wpAny_pure (wpAny_pure (And.intro (plainId_quiet FV.init.plain _) (codeAny_builtin FV.initEntry ?_))))
  exact exc_init_tree (cls := Value.ref C) (t0 := t0) (dv := none) (c2 := .none) (c3 := .none) (b4 := .bool false) he hz fun h' k hx ht => hq h' _ k hx
end
section
variable {P : Program} {w : World} {K : PySem.W.Frag} {mg : Str → Option Value} {base : Heap}
abbrev CE (K : PySem.W.Frag) (d : ExD) : Addr := He.ga K d.name
/-- an __init__ that begins with super().__init__(text): the rest of its body tells the promise -/
theorem init_ok {d : ExD} (X : ExT K d) (hT : PySem.W.nsIn K cStatics "thirdparty.any" = some none) (hP : PFile P) (ms : mg "super" = none) {N ps : List Str} {rest : List Stmt} {z : Str} {kz : Nat} {ar : Arg} {p0 p1 p2 p3 p4 p5 : Pos} (S : NScope N ps ["__class__"] (C8.fnScope d.st))
    (hks : (C8.fnScope d.st).names.lookup ("super" : Str) = some .globalImplicit) (har : ((C8.fnArgs d.st).posonlyargs ++ (C8.fnArgs d.st).args).head? = some ar) (har1 : ps[0]? = some ar.arg)
    (hbind : ∀ (q : Str) (cl : List (Str × Addr)) (doc pm : Value) (an : Option Addr) (cv ct : Value) (us : List Value), us.length = ps.length → bindArgs (PySem.W.fnX "__init__" q (C8.fnArgs d.st) (C8.fnBody d.st) (C8.fnScope d.st) cl .none .none doc pm an cv ct) ⟨us, []⟩ = pure (ps.zip us))
    (hst : C8.fnBody d.st = .Expr (.Call (.Attribute (.Call (.Name "super" p0) [] [] p1) "__init__" p2) [.Constant (.str z) kz p3] [] p4) p5 :: rest)
    (hev : ∀ (q : Str) (L f : Addr) (cv : Value) (cl : List (Str × Addr)), eval (.Call (.Attribute (.Call (.Name "super" p0) [] [] p1) "__init__" p2) [.Constant (.str z) kz p3] [] p4) (PySem.W.envX q (C8.fnScope d.st) L f cv cl) = (do
      let ov ← attributeBase (.Call (.Name "super" p0) [] [] p1) "__init__" (PySem.W.envX q (C8.fnScope d.st) L f cv cl) (eval (.Call (.Name "super" p0) [] [] p1) (PySem.W.envX q (C8.fnScope d.st) L f cv cl))
      standAt p2.atName
      let (g, first) ← holding [ov] (getMethod ov "__init__" (plainOf (.Call (.Name "super" p0) [] [] p1) (PySem.W.envX q (C8.fnScope d.st) L f cv cl)))
      callWith p4 g first (backTo p4 (starEach [.Constant (.str z) kz p3] (PySem.W.envX q (C8.fnScope d.st) L f cv cl))) []))
    (hin : ∀ (q : Str) (L f : Addr) (cv : Value) (cl : List (Str × Addr)), interactive (PySem.W.envX q (C8.fnScope d.st) L f cv cl) = false)
    (hsw : ∀ (q : Str) (L f : Addr) (cv : Value) (cl : List (Str × Addr)), swapsWith (.Call (.Attribute (.Call (.Name "super" p0) [] [] p1) "__init__" p2) [.Constant (.str z) kz p3] [] p4) none p5.line (PySem.W.envX q (C8.fnScope d.st) L f cv cl) = pure false)
    {sp : Sp} (len : ∀ vs H Q E, sp vs H Q E → vs.length = ps.length) (hsp : ∀ vs H Q E, sp vs H Q E → ∃ a ws, vs = .ref a :: ws ∧ H a = some (exo a (CE K d) none))
    (hrest : ∀ (F : NF) (f : Addr) (A : Around) (outer : List Env) (s : Shared) (H : Hp) (vs : List V) (Q : VK) (E : XK), F.scope = C8.fnScope d.st → sp vs H Q E →
      ∃ t, PSs (ncx C8.CX0 P w K mg base N F f A outer s H E) rest t ∧ t { nx := fun _ H' => Q .non H', rt := Q } (startF N vs [some (.ref (CE K d))]) H) :
    ∃ fd, FnOk P w K mg base C8.CX0 1 (fI K d.name) fd ps sp ∧ Binds K fd ps [] := by
  obtain ⟨oc, od, osl, cc, c, doc, pm, ct, an, ccl, cdd, csl, kcl, kdd, ksl, cvs, tf, lk, hcd, lcc, lc, hv2⟩ := X.fn
  refine ⟨PySem.W.fnX "__init__" (d.name ++ ".__init__") (C8.fnArgs d.st) (C8.fnBody d.st) (C8.fnScope d.st) [("__class__", cc)] .none .none doc pm an (.ref c) ct, ⟨len, fun A outer s H args us vs Q E hr e0 hb r h => ?_⟩, Binds.all fun us hl => hbind _ _ _ _ _ _ _ us hl⟩
  have KX : K.In s.heap := e0.mod.kin.keeps fun b o e => (e0.bs b o e).1
  have lim : s.heap.NoLimit := e0.mod.nolimit.keeps fun b o e => (e0.bs b o e).1
  have hl := len _ _ _ _ h
  have hcc := e0.bs cc _ (e0.mod.kin _ _ lcc)
  let F : NF := ⟨"__init__", d.name ++ ".__init__", C8.fnArgs d.st, C8.fnBody d.st, C8.fnScope d.st, [("__class__", cc)], c⟩
  have one : ∀ {y : Str} {a : Addr}, F.cl.lookup y = some a → y = "__class__" ∧ a = cc := fun {y a} e => by
    have e' : (match y == ("__class__" : Str) with | true => some cc | false => none) = some a := e
    by_cases hy : y = "__class__"
    · subst hy
      have q : (("__class__" : Str) == ("__class__" : Str)) = true := beq_self_eq_true _
      rw [q] at e'
      exact ⟨rfl, (Option.some.inj e').symm⟩
    · have q : (y == ("__class__" : Str)) = false := by simpa using hy
      rw [q] at e'
      cases e'
  have CA : CellsAt F.cl ["__class__"] [some (.ref (CE K d))] s.heap H := by
    refine ⟨rfl, fun y a e => ?_, fun x y a e1 e2 => (one e1).1.trans (one e2).1.symm, fun i y e => ?_⟩
    · rw [(one e).2]
      exact ⟨hcc.2, _, _, hcc.1, rfl⟩
    · cases i with
      | zero =>
        obtain rfl : "__class__" = y := Option.some.inj e
        refine ⟨cc, rfl, fun v hv => ?_⟩
        obtain rfl : V.ref (CE K d) = v := Option.some.inj (Option.some.inj hv)
        exact ⟨_, rfl, _, hcc.1, rfl⟩
      | succ i => cases e
  have hnc : ∀ x ∈ (C8.fnScope d.st).names, x.2 ≠ .cell := S.nocell
  refine PySem.ks_codeAny_call_defAt (fd := PySem.W.fnX "__init__" (d.name ++ ".__init__") (C8.fnArgs d.st) (C8.fnBody d.st) (C8.fnScope d.st) [("__class__", cc)] .none .none doc pm an (.ref c) ct) hr.depth (KX _ _ lk) rfl lim (PySem.W.codeRec_of KX hcd) rfl hb hnc (fun x hx => S.par x.1 (List.of_mem_zip hx).1) (fun h₁ hns kp => ?_) S.co S.gen S.kind
  have I : Inv (ncx C8.CX0 P w K mg base N F (fI K d.name) A outer s H E) [] (startF N vs [some (.ref (CE K d))]) H { s with heap := h₁, toks := s.toks + (ps.zip us).length } := inv_startN S hr.hd e0 hl r CA hns kp
  obtain ⟨a, ws, ev, ha⟩ := hsp _ _ _ _ h
  obtain ⟨t, ht, hq⟩ := hrest F (fI K d.name) A outer s H vs Q E rfl h
  subst ev
  rw [hst]
  obtain ⟨mK, q, NN, bs, bm, sn, sub, ab, col, dd, k0, k1, k2, k3, k5, hC, hbm⟩ := X.oex.cls
  obtain ⟨t1, he⟩ := exo_at I.hok ha
  have KX1 : K.In h₁ := KX.keeps kp
  have hC1 := KX1 _ _ hC
  have hcl : PySem.W.clsIn K (CE K d) = some { name := mK, bases := bs, mro := .ref (CE K d) :: bm, ns := NN, qualname := q, hasDict := true, slotNames := sn, subclasses := sub, abstract := ab, collection := col, hasDel := false } := by
    unfold PySem.W.clsIn
    rw [hC] <;> rfl
  obtain ⟨mb, hmb, hbb⟩ := I.mod.blt
  have hself : (ps.zip us).reverse.lookup ar.arg = some (.ref a) := by
    cases r with
    | @cons _ u0 _ ur ra rw' =>
      obtain rfl : u0 = Value.ref a := ra
      refine zip_look ?_ har1 rfl
      have q := S.nd.sublist (List.take_sublist (ps.length + 1) N)
      have q2 : N.take (ps.length + 1) = ps ++ [("__class__" : Str)] := S.pre
      rw [q2] at q
      exact (List.nodup_append.mp q).1
  have hloc : (C8.fnScope d.st).names.lookup ar.arg = some .local := S.par _ (List.mem_of_getElem? har1)
  have hfree : (C8.fnScope d.st).names.lookup ("__class__" : Str) = some .free := S.frk _ (by simp)
  obtain ⟨hh, g, dr, tk, os⟩ := s
  refine PySem.ks_wpAt_execs_cons (PySem.ks_wpAt_Expr_any (PySem.ks_wpAt_MethodCall (PySem.ks_wpAt_super_base hks hfree (by decide) rfl (KX1 _ _ lk) rfl har rfl (KX1 _ _ lc) rfl hv2 hP.file hP.sup ?_) (hev _ _ _ _ _)) (hin _ _ _ _ _) (hsw _ _ _ _ _))
  refine PySem.W.ks_loadName_global S.kind hks (Calls.loadGlobal_builtin (env := PySem.W.envX F.qual F.scope hh.objs.size (fI K d.name) (.ref F.c) F.cl) (I.mod.glob.keeps I.bk) ms (hmb.keeps I.bk) ((hbb _ (by decide +kernel)).trans (by decide +kernel)) ⟨rfl, ?_⟩)
  refine wpAny_loadName_free (env := PySem.W.envX F.qual F.scope hh.objs.size (fI K d.name) (.ref F.c) F.cl) S.kind hfree rfl ⟨_, KX1 _ _ lcc, rfl⟩ ?_
  refine wpAny_loadName_local (env := PySem.W.envX F.qual F.scope hh.objs.size (fI K d.name) (.ref F.c) F.cl) S.kind hloc hns hself ?_
  refine ks_wpAny_isType_cls hC1 rfl ⟨rfl, ?_⟩
  refine ks_wpAny_call_super hC1 rfl he rfl (fun c0 e => by cases e) (PySem.W.looks_mroIn KX1 X.mro) (fun h2 hso k2 => ?_)
  have hac : a ≠ CE K d := fun z => by
    rw [z, hC1] at he
    cases he
  have KX2 : K.In h2 := KX1.keeps k2
  have hm : PySem.W.ks_superIn K (CE K d) (CE K d) "__init__" = some (some (.builtin "ValueError.__init__")) := X.sup
  unfold PySem.W.ks_superIn at hm
  rw [hcl] at hm
  have Iat : PySem.W.InstAt h2 a { cls := .ref (CE K d), dict := none, data := .fields #[.ref t1, .none, .none, .none, .bool false, .none] } (CE K d) none := ⟨k2 _ _ he, rfl, rfl, trivial⟩
  refine PySem.W.kxs_getMethod PySem.W.kxs_ValueError hso (PySem.W.looks_opaque KX2 hT) (l₀ := .ref (CE K d) :: bm) (fun A Q E s k q => wpAny_bind ((PySem.W.looks_clsIn KX2 hcl) A _ E s k (wpAny_pure q))) rfl KX2 hm (Iat.type.andThen (PySem.W.looks_subIn KX2 X.sub)) hac (by decide) ?_
  show wpAny _ _ (callWith p4 (.ref h2.objs.size) [] ((false, eval (.Constant (.str z) kz p3) (PySem.W.envX F.qual F.scope hh.objs.size (fI K d.name) (.ref F.c) F.cl)) :: []) []) _ _ _
  refine PySem.W.kxs_callWith (i := "ValueError.__init__") (x := a) (by rfl) (Calls.evalArgs_plain (Calls.spliced_cons (Calls.Constant_str (Calls.spliced_nil ?_))))
  have hu : (h2.push (PySem.W.kxs_mw "ValueError.__init__" a)).get? h2.objs.size = some (PySem.W.kxs_mw "ValueError.__init__" a) := Heap.get?_push_size _ rfl
  have kk : ∀ b o, h₁.get? b = some o → (h2.push (PySem.W.kxs_mw "ValueError.__init__" a)).get? b = some o := fun b o e => Heap.get?_push_of_some _ (k2 b o e)
  refine ⟨hu, ?_⟩
  refine call_mw (C := CE K d) (t0 := t1) (kk _ _ hC1) (kk _ _ he) hu (by show 1 ≤ sizeLine; decide) (fun h3 t2 k3 hx3 => ?_)
  have I2 := I.kept (t' := tk + (ps.zip us).length + 1 + 1) kk
  have J : Inv (ncx C8.CX0 P w K mg base N F (fI K d.name) A outer ⟨hh, g, dr, tk, os⟩ H E) [] (startF N (.ref a :: ws) [some (.ref (CE K d))]) (upd H a (exo a (CE K d) none)) { (⟨hh, g, dr, tk, os⟩ : Shared) with heap := h3, toks := tk + (ps.zip us).length + 1 + 1 } :=
    I2.write (t' := tk + (ps.zip us).length + 1 + 1) (x := a) (e := a) (o := exo a (CE K d) none) (by rw [ha]; exact True.intro) (.inl rfl) k3 ⟨_, hx3⟩ (exo_ok hx3)
  have eu : upd H a (exo a (CE K d) none) = H := by
    funext b
    by_cases hb : b = a
    · rw [hb, upd_same, ha]
    · rw [upd_ne hb]
  rw [eu] at J
  show PySem.wpAt _ _ _ (execs rest _) _ _ _
  refine wpAt_of_wpAny ?_
  refine wpAny_mono (ht.run [] _ (startF N (.ref a :: ws) [some (.ref (CE K d))]) H _ J hq) (fun fl s' hs => ?_) fun e s' hs => hs
  have fin : ∀ {σ' : L2.St} {H' : Hp} {v : V} {u : Value}, Inv (ncx C8.CX0 P w K mg base N F (fI K d.name) A outer ⟨hh, g, dr, tk, os⟩ H E) [] σ' H' s' → L2.RelV v u → Q v H' → L2.CE outer P w H ⟨hh, g, dr, tk, os⟩ Q u s' :=
    fun {σ' H' v u} J rv q => ⟨v, H', J.os, J.bare, J.base, J.hok, rv, q⟩
  cases fl with
  | ret u =>
    obtain ⟨v, σ', H', J, rv, q⟩ := hs
    exact fin J rv q
  | next =>
    obtain ⟨σ', H', J, q⟩ := hs
    exact fin (v := V.non) (u := Value.none) J rfl q
  | brk =>
    obtain ⟨_, _, _, q⟩ := hs
    exact False.elim q
  | cont =>
    obtain ⟨_, _, _, q⟩ := hs
    exact False.elim q
end
end K14
end
section
/-! The making of the package's errors: none, one or two fields. -/
namespace K14
open PySem PySem.Spec PyProof.Rows L2 NdefX K14H
/-- C(), C's own __init__ keeping sp -/
def tMkO0 (C : Addr) (sp : Sp) : L2.St → Hp → XK → Prop := fun _ H Q => ∀ a, H a = none → sp [.ref a] (upd H a (exo a C none)) (fun v H2 => v = .non ∧ H2 = upd H a (exo a C none) ∧ Q (.ref C) none H) (fun _ _ _ => False)
section
variable {X : Cx}
theorem pmk_oex0 {CX : CXT} {x : Str} {C fI : Addr} {k : Nat} {fd : FuncData} {ps : List Str} {sp : Sp} {p pos : Pos} (T : OexC X.K C) (iC : PySem.W.findIn X.K (.ref C) "__init__" = some (some (.ref fI))) (tI : PySem.W.typeIn X.K (.ref fI) = some (.type "function"))
    (F1 : FnOk X.prog X.w X.K X.mg X.base CX k fI fd ps sp) (hr : Room (k + 1) X.A) (hb : L2.Binds X.K fd ps []) (hx : Passes CX X (fun _ _ _ => False)) (hg : Gl X x) (hm : X.mg x = some (.ref C)) (hdb : (x == ("__debug__" : Str)) = false := by decide) :
    PMk X (.Call (.Name x p) [] [] pos) (tMkO0 C sp) := by
  intro pins s σ H Q I h
  obtain ⟨nm, q, N, bs, bm, sn, sub, ab, col, dd, k0, k1, k2, k3, k5, hC, hbm⟩ := T.cls
  refine wpAny_Call_Name_kw (ld_glob I hg hm ?_ hdb)
  refine PySem.W.callWith_K0 I.kIn T.kC ?_
  show wpAny _ _ (call (.ref C) []) _ _ _
  obtain ⟨hp, g, dr, tk, os⟩ := s
  have hsz : hp.objs.size ≤ hp.objs.size + 1 := Nat.le_succ _
  have hn : H (hp.objs.size + 1) = none := I.hok.fresh hsz
  have hq := h (hp.objs.size + 1) hn
  have kk : ∀ b o, hp.get? b = some o → ((hp.push (PySem.W.kdv_tup [])).push (PySem.HandSPX.excO C hp.objs.size)).get? b = some o := fun b o e => Heap.get?_push_of_some _ (Heap.get?_push_of_some _ e)
  have ht : ((hp.push (PySem.W.kdv_tup [])).push (PySem.HandSPX.excO C hp.objs.size)).get? (hp.objs.size + 1) = some (PySem.HandSPX.excO C hp.objs.size) := by heap_get
  have I2 : Inv X pins σ (upd H (hp.objs.size + 1) (exo (hp.objs.size + 1) C none)) ⟨(hp.push (PySem.W.kdv_tup [])).push (PySem.HandSPX.excO C hp.objs.size), g, dr, tk, os⟩ :=
    I.laid (t' := tk) (a := hp.objs.size + 1) (o := exo (hp.objs.size + 1) C none) (h' := (hp.push (PySem.W.kdv_tup [])).push (PySem.HandSPX.excO C hp.objs.size)) kk hsz (exo_ok ht)
  have r2 : Vals [V.ref (hp.objs.size + 1)] [Value.ref (hp.objs.size + 1)] := .cons rfl .nil
  have hl : [Value.ref (hp.objs.size + 1)].length = ps.length := by
    have e := r2.length
    rw [F1.len _ _ _ _ hq] at e
    exact e.symm
  refine wpAny_call (PySem.HandSPX.call_own F.excBase_ValueError (fun Y => PySem.HandSPX.refsVE_contains Y bm hbm) (I.kIn _ _ hC) (PySem.W.looks_findIn I.kIn iC) (fun self => PySem.W.bind_fn I.kIn self tI) (Nat.zero_le _)
    (codeAny_mono (F1.run _ X.stack _ _ ⟨[Value.ref (hp.objs.size + 1)], []⟩ [Value.ref (hp.objs.size + 1)] _ _ (fun _ _ _ => False) (hr.make C [] []) (I2.env0.make C [] []) (by
      have := hb ⟨(hp.push (PySem.W.kdv_tup [])).push (PySem.HandSPX.excO C hp.objs.size), g, dr, tk, os⟩ [Value.ref (hp.objs.size + 1)] I2.kIn (by rw [List.append_nil]; exact hl)
      rw [List.append_nil] at this
      exact this) r2 hq) fun r s' hq' => ?_))
  cases r with
  | error er => exact hx pins σ _ _ er s' I2 hq'
  | ok fl =>
    cases fl with
    | ret u =>
      obtain ⟨v, H2, os2, bare2, un, hok, rv, ev, eH, q2⟩ := hq'
      subst ev eH
      obtain ⟨h2, g2, d2, t2, os'⟩ := s'
      refine ⟨rv, ?_⟩
      -- the exception is let go
      have ea : upd H (hp.objs.size + 1) (exo (hp.objs.size + 1) C none) (hp.objs.size + 1) = some (exo (hp.objs.size + 1) C none) := upd_same
      obtain ⟨t0, hoe⟩ := exo_at hok ea
      obtain ⟨G, g1', g2'⟩ := restrict h2 fun b => decide (b ≠ hp.objs.size + 1)
      have gk : ∀ b, b ≠ hp.objs.size + 1 → G.get? b = h2.get? b := fun b hb => g1' b (decide_eq_true hb)
      have ge : G.get? (hp.objs.size + 1) = none := g2' _ (by simp)
      have nha : ∀ {b : Addr} {o : Obj}, hp.get? b = some o → b ≠ hp.objs.size + 1 := fun {b o} z => Nat.ne_of_lt (Nat.lt_succ_of_lt (Heap.lt_size z))
      have up : ∀ {b : Addr}, b ≠ hp.objs.size + 1 → H b = none → upd H (hp.objs.size + 1) (exo (hp.objs.size + 1) C none) b = none := fun {b} hb n => by rw [upd_ne hb]; exact n
      have U : Un (frs X.stack) [] H H hp G := {
        keep := fun b o z n hf hx => by
          rw [gk b (nha z)]
          exact un.keep b o (kk b o z) (up (nha z) n) hf hx
        slot := fun b o z n hf hx => by
          rw [gk b (nha z)]
          exact un.slot b o (kk b o z) (up (nha z) n) hf hx
        free := fun b o z n hx => n
        there := fun b o z hx => by
          rw [gk b (nha z)]
          exact un.there b o (kk b o z) hx
        tups := fun b xs z => z
        frzs := fun b o v z => z
        tbls := fun b ps z => ⟨#[], by rw [z]; simp⟩ }
      have hok3 : HOk X.prog X.w H G := fun b o z => by
        have hba : b ≠ hp.objs.size + 1 := fun e => by rw [e, hn] at z; cases z
        have z2 : upd H (hp.objs.size + 1) (exo (hp.objs.size + 1) C none) b = some o := by rw [upd_ne hba]; exact z
        have noa : ∀ {c : Addr} {o : HO}, H c = some o → c ≠ hp.objs.size + 1 := fun {c o} hc e => by rw [e, hn] at hc; cases hc
        refine (hok b o z2).stay (fun c v hc y => ?_) (fun c hc => ?_) (fun c xs hc => ?_)
        · have hca : c ≠ hp.objs.size + 1 := by
            rcases hc with hc | hc
            · rw [hc]
              exact hba
            · exact at_ne ea hc exo_own
          rw [gk c hca]
          exact y
        · rw [upd_ne (at_ne ea hc exo_own)] at hc
          exact hc
        · rw [upd_ne (at_ne ea hc exo_tup)] at hc
          exact hc
      have J : Inv X pins σ H ⟨G, g2, d2, t2, os'⟩ := I.call' (ch := []) os2 U hok3 bare2 (fun b z => absurd z (by simp))
      refine ⟨hp.objs.size + 1, _, _, ⟨G, g2, d2, t2, os'⟩, H, .ref C, none, rfl, J, fun b o z => ?_, ge, hoe, ⟨rfl, rfl⟩, rfl, rfl, hn, rfl, bare2, raises_own T.exC T.tyC, q2⟩
      by_cases hba : b = hp.objs.size + 1
      · rw [hba, ge] at z
        cases z
      · exact (gk b hba).symm.trans z
    | next => exact False.elim hq'
    | brk => exact False.elim hq'
    | cont => exact False.elim hq'
end
/-! ### the promises of the __init__s -/
def sp_ex0 (C : Addr) : Sp := fun vs H Q _ => ∃ a, vs = [.ref a] ∧ H a = some (exo a C none) ∧ Q .non H
def sp_ex1 (C : Addr) (f : Str) : Sp := fun vs H Q _ => ∃ a y, vs = [.ref a, y] ∧ H a = some (exo a C none) ∧ ∀ dx, H dx = none → dx ≠ a → Q .non (upd (upd H dx (exd dx [(f, y)])) a (exo a C (some dx)))
def sp_ex2 (C : Addr) (f g : Str) : Sp := fun vs H Q _ => ∃ a y z, vs = [.ref a, y, z] ∧ H a = some (exo a C none) ∧ ∀ dx, H dx = none → dx ≠ a → Q .non (upd (upd (upd H dx (exd dx [(f, y)])) a (exo a C (some dx))) dx (exd dx [(g, z), (f, y)]))
section
variable {P : Program} {w : World} {K : PySem.W.Frag} {mg : Str → Option Value} {base : Heap}
def xNoNumber : ExD := ⟨"NoNumber", inClass (top 3) 0, []⟩
theorem i_NoNumber (X : ExT K xNoNumber) (hT : PySem.W.nsIn K cStatics "thirdparty.any" = some none) (hP : PFile P) (ms : mg "super" = none) : ∃ fd, FnOk P w K mg base C8.CX0 1 (fI K "NoNumber") fd ["self"] (sp_ex0 (He.ga K "NoNumber")) ∧ L2.Binds K fd ["self"] [] := by
  refine init_ok X hT hP ms (N := ["self", "__class__"]) (nscope_by (by decide +kernel)) rfl rfl rfl (fun q cl doc pm an cv ct us hl => match us, hl with | [_], _ => rfl) rfl (fun _ _ _ _ _ => rfl) (fun _ _ _ _ _ => rfl) (fun _ _ _ _ _ => rfl)
    (fun vs H Q E ⟨a, e, _⟩ => by rw [e]; rfl) (fun vs H Q E ⟨a, e, h, _⟩ => ⟨a, [], e, h⟩) (fun F f A outer s H vs Q E hs h => ?_)
  obtain ⟨a, rfl, h1, q⟩ := h
  exact ⟨_, pss_nil, q⟩
def xBadWeb : ExD := ⟨"BadWeb", inClass (top 4) 0, ["part"]⟩
theorem i_BadWeb (X : ExT K xBadWeb) (hT : PySem.W.nsIn K cStatics "thirdparty.any" = some none) (hP : PFile P) (ms : mg "super" = none) : ∃ fd, FnOk P w K mg base C8.CX0 1 (fI K "BadWeb") fd ["self", "part"] (sp_ex1 (He.ga K "BadWeb") "part") ∧ L2.Binds K fd ["self", "part"] [] := by
  refine init_ok X hT hP ms (N := ["self", "part", "__class__"]) (nscope_by (by decide +kernel)) rfl rfl rfl (fun q cl doc pm an cv ct us hl => match us, hl with | [_, _], _ => rfl) rfl (fun _ _ _ _ _ => rfl) (fun _ _ _ _ _ => rfl) (fun _ _ _ _ _ => rfl)
    (fun vs H Q E ⟨a, y, e, _⟩ => by rw [e]; rfl) (fun vs H Q E ⟨a, y, e, h, _⟩ => ⟨a, [y], e, h⟩) (fun F f A outer s H vs Q E hs h => ?_)
  obtain ⟨a, y, rfl, h1, q⟩ := h
  obtain ⟨nm, ql, pa, bd, sc, cl, c⟩ := F
  dsimp only at hs
  subst hs
  refine ⟨_, pss_one (ps_ost (pv 0) (pv 1) rfl), ?_⟩
  exact ⟨_, rfl, _, rfl, a, _, rfl, X.oex, X.fld "part" (by simp [xBadWeb]), .inl ⟨h1, fun dx n ne => q dx n ne⟩⟩
def xTooLarge : ExD := ⟨"TooLarge", inClass (top 5) 0, ["most"]⟩
theorem i_TooLarge (X : ExT K xTooLarge) (hT : PySem.W.nsIn K cStatics "thirdparty.any" = some none) (hP : PFile P) (ms : mg "super" = none) : ∃ fd, FnOk P w K mg base C8.CX0 1 (fI K "TooLarge") fd ["self", "most"] (sp_ex1 (He.ga K "TooLarge") "most") ∧ L2.Binds K fd ["self", "most"] [] := by
  refine init_ok X hT hP ms (N := ["self", "most", "__class__"]) (nscope_by (by decide +kernel)) rfl rfl rfl (fun q cl doc pm an cv ct us hl => match us, hl with | [_, _], _ => rfl) rfl (fun _ _ _ _ _ => rfl) (fun _ _ _ _ _ => rfl) (fun _ _ _ _ _ => rfl)
    (fun vs H Q E ⟨a, y, e, _⟩ => by rw [e]; rfl) (fun vs H Q E ⟨a, y, e, h, _⟩ => ⟨a, [y], e, h⟩) (fun F f A outer s H vs Q E hs h => ?_)
  obtain ⟨a, y, rfl, h1, q⟩ := h
  obtain ⟨nm, ql, pa, bd, sc, cl, c⟩ := F
  dsimp only at hs
  subst hs
  refine ⟨_, pss_one (ps_ost (pv 0) (pv 1) rfl), ?_⟩
  exact ⟨_, rfl, _, rfl, a, _, rfl, X.oex, X.fld "most" (by simp [xTooLarge]), .inl ⟨h1, fun dx n ne => q dx n ne⟩⟩
def xBadBook : ExD := ⟨"BadBook", inClass (top 6) 0, ["part"]⟩
theorem i_BadBook (X : ExT K xBadBook) (hT : PySem.W.nsIn K cStatics "thirdparty.any" = some none) (hP : PFile P) (ms : mg "super" = none) : ∃ fd, FnOk P w K mg base C8.CX0 1 (fI K "BadBook") fd ["self", "part"] (sp_ex1 (He.ga K "BadBook") "part") ∧ L2.Binds K fd ["self", "part"] [] := by
  refine init_ok X hT hP ms (N := ["self", "part", "__class__"]) (nscope_by (by decide +kernel)) rfl rfl rfl (fun q cl doc pm an cv ct us hl => match us, hl with | [_, _], _ => rfl) rfl (fun _ _ _ _ _ => rfl) (fun _ _ _ _ _ => rfl) (fun _ _ _ _ _ => rfl)
    (fun vs H Q E ⟨a, y, e, _⟩ => by rw [e]; rfl) (fun vs H Q E ⟨a, y, e, h, _⟩ => ⟨a, [y], e, h⟩) (fun F f A outer s H vs Q E hs h => ?_)
  obtain ⟨a, y, rfl, h1, q⟩ := h
  obtain ⟨nm, ql, pa, bd, sc, cl, c⟩ := F
  dsimp only at hs
  subst hs
  refine ⟨_, pss_one (ps_ost (pv 0) (pv 1) rfl), ?_⟩
  exact ⟨_, rfl, _, rfl, a, _, rfl, X.oex, X.fld "part" (by simp [xBadBook]), .inl ⟨h1, fun dx n ne => q dx n ne⟩⟩
def xTooMany : ExD := ⟨"TooMany", inClass (top 9) 0, ["most"]⟩
theorem i_TooMany (X : ExT K xTooMany) (hT : PySem.W.nsIn K cStatics "thirdparty.any" = some none) (hP : PFile P) (ms : mg "super" = none) : ∃ fd, FnOk P w K mg base C8.CX0 1 (fI K "TooMany") fd ["self", "most"] (sp_ex1 (He.ga K "TooMany") "most") ∧ L2.Binds K fd ["self", "most"] [] := by
  refine init_ok X hT hP ms (N := ["self", "most", "__class__"]) (nscope_by (by decide +kernel)) rfl rfl rfl (fun q cl doc pm an cv ct us hl => match us, hl with | [_, _], _ => rfl) rfl (fun _ _ _ _ _ => rfl) (fun _ _ _ _ _ => rfl) (fun _ _ _ _ _ => rfl)
    (fun vs H Q E ⟨a, y, e, _⟩ => by rw [e]; rfl) (fun vs H Q E ⟨a, y, e, h, _⟩ => ⟨a, [y], e, h⟩) (fun F f A outer s H vs Q E hs h => ?_)
  obtain ⟨a, y, rfl, h1, q⟩ := h
  obtain ⟨nm, ql, pa, bd, sc, cl, c⟩ := F
  dsimp only at hs
  subst hs
  refine ⟨_, pss_one (ps_ost (pv 0) (pv 1) rfl), ?_⟩
  exact ⟨_, rfl, _, rfl, a, _, rfl, X.oex, X.fld "most" (by simp [xTooMany]), .inl ⟨h1, fun dx n ne => q dx n ne⟩⟩
def xNoSights : ExD := ⟨"NoSights", inClass (top 10) 0, ["index"]⟩
theorem i_NoSights (X : ExT K xNoSights) (hT : PySem.W.nsIn K cStatics "thirdparty.any" = some none) (hP : PFile P) (ms : mg "super" = none) : ∃ fd, FnOk P w K mg base C8.CX0 1 (fI K "NoSights") fd ["self", "index"] (sp_ex1 (He.ga K "NoSights") "index") ∧ L2.Binds K fd ["self", "index"] [] := by
  refine init_ok X hT hP ms (N := ["self", "index", "__class__"]) (nscope_by (by decide +kernel)) rfl rfl rfl (fun q cl doc pm an cv ct us hl => match us, hl with | [_, _], _ => rfl) rfl (fun _ _ _ _ _ => rfl) (fun _ _ _ _ _ => rfl) (fun _ _ _ _ _ => rfl)
    (fun vs H Q E ⟨a, y, e, _⟩ => by rw [e]; rfl) (fun vs H Q E ⟨a, y, e, h, _⟩ => ⟨a, [y], e, h⟩) (fun F f A outer s H vs Q E hs h => ?_)
  obtain ⟨a, y, rfl, h1, q⟩ := h
  obtain ⟨nm, ql, pa, bd, sc, cl, c⟩ := F
  dsimp only at hs
  subst hs
  refine ⟨_, pss_one (ps_ost (pv 0) (pv 1) rfl), ?_⟩
  exact ⟨_, rfl, _, rfl, a, _, rfl, X.oex, X.fld "index" (by simp [xNoSights]), .inl ⟨h1, fun dx n ne => q dx n ne⟩⟩
def xBadAnswer : ExD := ⟨"BadAnswer", inClass (top 11) 0, ["one", "other"]⟩
theorem i_BadAnswer (X : ExT K xBadAnswer) (hT : PySem.W.nsIn K cStatics "thirdparty.any" = some none) (hP : PFile P) (ms : mg "super" = none) : ∃ fd, FnOk P w K mg base C8.CX0 1 (fI K "BadAnswer") fd ["self", "one", "other"] (sp_ex2 (He.ga K "BadAnswer") "one" "other") ∧ L2.Binds K fd ["self", "one", "other"] [] := by
  refine init_ok X hT hP ms (N := ["self", "one", "other", "__class__"]) (nscope_by (by decide +kernel)) rfl rfl rfl (fun q cl doc pm an cv ct us hl => match us, hl with | [_, _, _], _ => rfl) rfl (fun _ _ _ _ _ => rfl) (fun _ _ _ _ _ => rfl) (fun _ _ _ _ _ => rfl)
    (fun vs H Q E ⟨a, y, z, e, _⟩ => by rw [e]; rfl) (fun vs H Q E ⟨a, y, z, e, h, _⟩ => ⟨a, [y, z], e, h⟩) (fun F f A outer s H vs Q E hs h => ?_)
  obtain ⟨a, y, z, rfl, h1, q⟩ := h
  obtain ⟨nm, ql, pa, bd, sc, cl, c⟩ := F
  dsimp only at hs
  subst hs
  refine ⟨_, pss_cons (ps_ost (pv 0) (pv 1) rfl) (pss_one (ps_ost (pv 0) (pv 2) rfl)), ?_⟩
  exact ⟨_, rfl, _, rfl, a, _, rfl, X.oex, X.fld "one" (by simp [xBadAnswer]), .inl ⟨h1, fun dx n ne => ⟨_, rfl, _, rfl, a, _, rfl, X.oex, X.fld "other" (by simp [xBadAnswer]), .inr ⟨dx, _, upd_same, (by rw [upd_ne ne]; exact upd_same), (by show 1 ≤ 900; decide), q dx n ne⟩⟩⟩⟩
def xBadOpening : ExD := ⟨"BadOpening", inClass (top 12) 0, ["filling"]⟩
theorem i_BadOpening (X : ExT K xBadOpening) (hT : PySem.W.nsIn K cStatics "thirdparty.any" = some none) (hP : PFile P) (ms : mg "super" = none) : ∃ fd, FnOk P w K mg base C8.CX0 1 (fI K "BadOpening") fd ["self", "filling"] (sp_ex1 (He.ga K "BadOpening") "filling") ∧ L2.Binds K fd ["self", "filling"] [] := by
  refine init_ok X hT hP ms (N := ["self", "filling", "__class__"]) (nscope_by (by decide +kernel)) rfl rfl rfl (fun q cl doc pm an cv ct us hl => match us, hl with | [_, _], _ => rfl) rfl (fun _ _ _ _ _ => rfl) (fun _ _ _ _ _ => rfl) (fun _ _ _ _ _ => rfl)
    (fun vs H Q E ⟨a, y, e, _⟩ => by rw [e]; rfl) (fun vs H Q E ⟨a, y, e, h, _⟩ => ⟨a, [y], e, h⟩) (fun F f A outer s H vs Q E hs h => ?_)
  obtain ⟨a, y, rfl, h1, q⟩ := h
  obtain ⟨nm, ql, pa, bd, sc, cl, c⟩ := F
  dsimp only at hs
  subst hs
  refine ⟨_, pss_one (ps_ost (pv 0) (pv 1) rfl), ?_⟩
  exact ⟨_, rfl, _, rfl, a, _, rfl, X.oex, X.fld "filling" (by simp [xBadOpening]), .inl ⟨h1, fun dx n ne => q dx n ne⟩⟩
def xBadText : ExD := ⟨"BadText", inClass (top 13) 0, ["line"]⟩
theorem i_BadText (X : ExT K xBadText) (hT : PySem.W.nsIn K cStatics "thirdparty.any" = some none) (hP : PFile P) (ms : mg "super" = none) : ∃ fd, FnOk P w K mg base C8.CX0 1 (fI K "BadText") fd ["self", "line"] (sp_ex1 (He.ga K "BadText") "line") ∧ L2.Binds K fd ["self", "line"] [] := by
  refine init_ok X hT hP ms (N := ["self", "line", "__class__"]) (nscope_by (by decide +kernel)) rfl rfl rfl (fun q cl doc pm an cv ct us hl => match us, hl with | [_, _], _ => rfl) rfl (fun _ _ _ _ _ => rfl) (fun _ _ _ _ _ => rfl) (fun _ _ _ _ _ => rfl)
    (fun vs H Q E ⟨a, y, e, _⟩ => by rw [e]; rfl) (fun vs H Q E ⟨a, y, e, h, _⟩ => ⟨a, [y], e, h⟩) (fun F f A outer s H vs Q E hs h => ?_)
  obtain ⟨a, y, rfl, h1, q⟩ := h
  obtain ⟨nm, ql, pa, bd, sc, cl, c⟩ := F
  dsimp only at hs
  subst hs
  refine ⟨_, pss_one (ps_ost (pv 0) (pv 1) rfl), ?_⟩
  exact ⟨_, rfl, _, rfl, a, _, rfl, X.oex, X.fld "line" (by simp [xBadText]), .inl ⟨h1, fun dx n ne => q dx n ne⟩⟩
def xNoLine : ExD := ⟨"NoLine", inClass (top 14) 0, []⟩
theorem i_NoLine (X : ExT K xNoLine) (hT : PySem.W.nsIn K cStatics "thirdparty.any" = some none) (hP : PFile P) (ms : mg "super" = none) : ∃ fd, FnOk P w K mg base C8.CX0 1 (fI K "NoLine") fd ["self"] (sp_ex0 (He.ga K "NoLine")) ∧ L2.Binds K fd ["self"] [] := by
  refine init_ok X hT hP ms (N := ["self", "__class__"]) (nscope_by (by decide +kernel)) rfl rfl rfl (fun q cl doc pm an cv ct us hl => match us, hl with | [_], _ => rfl) rfl (fun _ _ _ _ _ => rfl) (fun _ _ _ _ _ => rfl) (fun _ _ _ _ _ => rfl)
    (fun vs H Q E ⟨a, e, _⟩ => by rw [e]; rfl) (fun vs H Q E ⟨a, e, h, _⟩ => ⟨a, [], e, h⟩) (fun F f A outer s H vs Q E hs h => ?_)
  obtain ⟨a, rfl, h1, q⟩ := h
  exact ⟨_, pss_nil, q⟩
def xNoName : ExD := ⟨"NoName", inClass (top 15) 0, ["name"]⟩
theorem i_NoName (X : ExT K xNoName) (hT : PySem.W.nsIn K cStatics "thirdparty.any" = some none) (hP : PFile P) (ms : mg "super" = none) : ∃ fd, FnOk P w K mg base C8.CX0 1 (fI K "NoName") fd ["self", "name"] (sp_ex1 (He.ga K "NoName") "name") ∧ L2.Binds K fd ["self", "name"] [] := by
  refine init_ok X hT hP ms (N := ["self", "name", "__class__"]) (nscope_by (by decide +kernel)) rfl rfl rfl (fun q cl doc pm an cv ct us hl => match us, hl with | [_, _], _ => rfl) rfl (fun _ _ _ _ _ => rfl) (fun _ _ _ _ _ => rfl) (fun _ _ _ _ _ => rfl)
    (fun vs H Q E ⟨a, y, e, _⟩ => by rw [e]; rfl) (fun vs H Q E ⟨a, y, e, h, _⟩ => ⟨a, [y], e, h⟩) (fun F f A outer s H vs Q E hs h => ?_)
  obtain ⟨a, y, rfl, h1, q⟩ := h
  obtain ⟨nm, ql, pa, bd, sc, cl, c⟩ := F
  dsimp only at hs
  subst hs
  refine ⟨_, pss_one (ps_ost (pv 0) (pv 1) rfl), ?_⟩
  exact ⟨_, rfl, _, rfl, a, _, rfl, X.oex, X.fld "name" (by simp [xNoName]), .inl ⟨h1, fun dx n ne => q dx n ne⟩⟩
def xNothingDone : ExD := ⟨"NothingDone", inClass (top 16) 0, []⟩
theorem i_NothingDone (X : ExT K xNothingDone) (hT : PySem.W.nsIn K cStatics "thirdparty.any" = some none) (hP : PFile P) (ms : mg "super" = none) : ∃ fd, FnOk P w K mg base C8.CX0 1 (fI K "NothingDone") fd ["self"] (sp_ex0 (He.ga K "NothingDone")) ∧ L2.Binds K fd ["self"] [] := by
  refine init_ok X hT hP ms (N := ["self", "__class__"]) (nscope_by (by decide +kernel)) rfl rfl rfl (fun q cl doc pm an cv ct us hl => match us, hl with | [_], _ => rfl) rfl (fun _ _ _ _ _ => rfl) (fun _ _ _ _ _ => rfl) (fun _ _ _ _ _ => rfl)
    (fun vs H Q E ⟨a, e, _⟩ => by rw [e]; rfl) (fun vs H Q E ⟨a, e, h, _⟩ => ⟨a, [], e, h⟩) (fun F f A outer s H vs Q E hs h => ?_)
  obtain ⟨a, rfl, h1, q⟩ := h
  exact ⟨_, pss_nil, q⟩
end
/-! ### what is told of all -/
structure TxtE (P : Program) (K : PySem.W.Frag) (mg : Str → Option Value) : Prop where
  t : Txt K mg
  ex : ∀ d ∈ exs, ExT K d
  third : PySem.W.nsIn K cStatics "thirdparty.any" = some none
  file : PFile P
/-! ### defs that may raise -/
structure CalX (P : Program) (w : World) (K : PySem.W.Frag) (mg : Str → Option Value) (base : Heap) (k : Nat) (x : Str) (sp : Sp) : Prop where
  ex : ∃ (f : Addr) (fd : FuncData) (ps : List Str), FnOk P w K mg base (L2.CX P w) k f fd ps sp ∧ mg x = some (.ref f) ∧ PySem.W.keepIn K (.ref f) = true ∧ L2.Binds K fd ps []
structure MetX (P : Program) (w : World) (K : PySem.W.Frag) (mg : Str → Option Value) (base : Heap) (k : Nat) (C : Addr) (m : Str) (sp : Sp) : Prop where
  ex : ∃ (f : Addr) (fd : FuncData) (ps : List Str), Cls K C ∧ Meth K C m f ∧ FnOk P w K mg base (L2.CX P w) k f fd ps sp ∧ L2.Binds K fd ps []
section
variable {P : Program} {w : World} {K : PySem.W.Frag} {mg : Str → Option Value} {base : Heap}
theorem calX {x : Str} {st : Stmt} {N ps : List Str} {k : Nat} {sp : Sp} (D : DefAt K mg x st ps) (S : FnScope N ps (C8.fnScope st)) (len : ∀ vs H Q E, sp vs H Q E → vs.length = ps.length)
    (hbody : ∀ (f : Addr) (cdv : Value) (A : Around) (outer : List Env) (s : Shared) (H : Hp) (vs : List V) (Q : VK) (E : XK), Room k (A.deeper (envOfC x (C8.fnScope st) s.heap.objs.size f cdv)) → sp vs H Q E →
      ∃ t, PSs (cxOf (L2.CX P w) P w K mg base N x (C8.fnScope st) f cdv A outer s H E) (C8.fnBody st) t ∧ t { nx := fun _ H' => Q .non H', rt := Q } (L2.start N vs) H) : CalX P w K mg base (k + 1) x sp := by
  obtain ⟨f, fd, d, b⟩ := D
  obtain ⟨oc, od, dV, kV, doc, pm, an, cdv, ct, osl, rfl, lk, hcd⟩ := d.fn.ex
  exact ⟨f, _, ps, fn_of lk hcd S len fun A outer s H vs Q E hr h => hbody f cdv A outer s H vs Q E hr h, d.mgf, d.kp, b⟩
theorem metX {m qual : Str} {C : Addr} {st : Stmt} {N ps : List Str} {k : Nat} {sp : Sp} (c : Cls K C) (D : MetAt K C m qual st ps) (S : FnScope N ps (C8.fnScope st)) (len : ∀ vs H Q E, sp vs H Q E → vs.length = ps.length)
    (hbody : ∀ (f : Addr) (cdv : Value) (A : Around) (outer : List Env) (s : Shared) (H : Hp) (vs : List V) (Q : VK) (E : XK), Room k (A.deeper (envOfC qual (C8.fnScope st) s.heap.objs.size f cdv)) → sp vs H Q E →
      ∃ t, PSs (cxOf (L2.CX P w) P w K mg base N qual (C8.fnScope st) f cdv A outer s H E) (C8.fnBody st) t ∧ t { nx := fun _ H' => Q .non H', rt := Q } (L2.start N vs) H) : MetX P w K mg base (k + 1) C m sp := by
  obtain ⟨f, fd, me, F, b⟩ := D
  obtain ⟨oc, od, dV, kV, doc, pm, an, cdv, ct, osl, rfl, lk, hcd⟩ := F.ex
  exact ⟨f, _, ps, c, me, fn_of lk hcd S len fun A outer s H vs Q E hr h => hbody f cdv A outer s H vs Q E hr h, b⟩
end
section
variable {X : Cx} {k j : Nat} {C : Addr} {x m : Str} {sp : Sp} {p pos apos : Pos} {e o : Expr} {es : List Expr} {ta : TE} {t : TA} {W : WX}
theorem pe_cX (c : CalX X.prog X.w X.K X.mg X.base k x sp) (hr : Room j X.A) (hk : k ≤ j) (tk : Takes X W) (hg : Gl X x) (ha : PA X (e :: es) t)
    (hdb : (x == ("__debug__" : Str)) = false := by decide) (he : starEach (e :: es) X.env = (false, eval e X.env) :: starEach es X.env := by rfl) (hpl : (backTo pos (starEach es X.env)).any (·.1) = false := by rfl) :
    PE X (.Call (.Name x p) (e :: es) [] pos) (tCallS sp (WE W) t) := by
  obtain ⟨f, fd, ps, F, hm, kp, b⟩ := c.ex
  exact pe_callS F (hr.mono hk) hg hm kp b (fun σ => passAt tk σ) ha hdb he hpl
/-- o.m(e, ..): what it raises is wished for at the slots as they stand -/
def tMetX (C : Addr) (m : Str) (sp : Sp) (W : WX) (ta : TE) (t : TA) : TE := fun σ H Q => ta σ H fun x H1 => ∃ a dx fs, x = .ref a ∧ H1 a = some (.ins C dx fs) ∧ fs.lookup m = none ∧ t σ H1 fun vs H2 => sp (x :: vs) H2 Q (WE W σ)
theorem pe_mX {pl : Sem Bool} (c : MetX X.prog X.w X.K X.mg X.base k C m sp) (hr : Room j X.A) (hk : k ≤ j) (tk : Takes X W) (ho : PE X o ta) (ha : PA X (e :: es) t)
    (hst : starEach (e :: es) X.env = (false, eval e X.env) :: starEach es X.env := by rfl) (hpl : (backTo pos (starEach es X.env)).any (·.1) = false := by rfl)
    (ht : eval (.Call (.Attribute o m apos) (e :: es) [] pos) X.env = (do
      let ov ← eval o X.env
      standAt apos.atName
      let (f, first) ← holding [ov] (getMethod ov m pl)
      callWith pos f first (backTo pos (starEach (e :: es) X.env)) (backToKw pos (keywordEach [] X.env))) := by rfl) :
    PE X (.Call (.Attribute o m apos) (e :: es) [] pos) (tMetX C m sp W ta t) := by
  obtain ⟨f, fd, ps, hc, hm, F, b⟩ := c.ex
  refine ⟨fun pins s σ H Q I h => ?_⟩
  refine PySem.W.methodCall_KW (pl := pl) (thn (ho.run pins s σ H _ I h) fun u s1 ⟨x, H1, I1, rx, a, dx, fs, ex, ea, l, q⟩ => ?_) ht
  subst ex
  obtain rfl : u = Value.ref a := rx
  refine getmeth_ok I1 ea hc hm l ?_
  refine PySem.W.callWith_K (first := [Value.ref a]) (h₀ := X.base) I.ok.mod.kin hm.kp (thn (ha.run pos pins s1 σ H1 _ I1 q) fun us s2 ⟨vs, H2, I2, r, q2⟩ => ⟨I2.kIn, ?_⟩) hst hpl
  exact run_fnS (us := Value.ref a :: us) (vs := V.ref a :: vs) F (hr.mono hk) b (passAt tk σ) I2 (.cons rfl r) q2
end
section
variable {P : Program} {w : World} {K : PySem.W.Frag} {mg : Str → Option Value} {base : Heap}
abbrev s_check_number : Stmt := top 24
abbrev N_check_number : List Str := ["thing", "least", "most"]
theorem sc_check_number : FnScope N_check_number ["thing", "least", "most"] (C8.fnScope s_check_number) := C8.fnScope_by (by decide +kernel)
def sp_check_number (K : PySem.W.Frag) : Sp := fun vs H Q E => ∃ i lo hi : Int, vs = [.int i, .int lo, .int hi] ∧ ((lo ≤ i ∧ i ≤ hi) → Q (.int i) H) ∧ (¬ (lo ≤ i ∧ i ≤ hi) → E (.ref (He.ga K "NoNumber")) none H)
theorem c_check_number (U : TxtE P K mg) : CalX P w K mg base 3 "check_number" (sp_check_number K) := by
  have T := U.t
  have XN : ExT K xNoNumber := U.ex _ (by simp [exs, xNoNumber])
  obtain ⟨fN, FN, bN⟩ := i_NoNumber (P := P) (w := w) (mg := mg) (base := base) XN U.third U.file T.z_super
  refine calX T.d_check_number sc_check_number (fun vs H Q E ⟨i, lo, hi, e, _⟩ => by rw [e]; rfl) fun f cdv A outer s H vs Q E hr h => ⟨_, (pss_cons (ps_if (pt_not (pt_val (C8.pe_c (c_is_between T) hr (by decide) (by rfl) (pa_cons (pv 0) (pa_cons (pv 1) (pa_cons (pv 2) pa_nil)))))) (pss_one (ps_raise rfl (takes_of rfl rfl rfl rfl) (pmk_oex0 XN.oex XN.ini XN.tyI FN (hr.mono (by decide)) bN C8.pass0 (by rfl) T.g_NoNumber))) pss_nil)
    (pss_one (ps_ret (pv 0)))), ?_⟩
  obtain ⟨i, lo, hi, rfl, q1, q2⟩ := h
  refine ⟨_, rfl, _, rfl, _, rfl, i, lo, hi, rfl, _, rfl, ?_⟩
  show if (!decide (lo ≤ i ∧ i ≤ hi)) = true then _ else _
  by_cases c : lo ≤ i ∧ i ≤ hi
  · rw [show decide (lo ≤ i ∧ i ≤ hi) = true from decide_eq_true c]
    exact ⟨_, rfl, q1 c⟩
  · rw [show decide (lo ≤ i ∧ i ≤ hi) = false from decide_eq_false c]
    intro a ha
    exact ⟨a, rfl, upd_same, rfl, rfl, q2 c⟩
end
end K14
end
section
/-! _law_raised: one of the package's errors. -/
namespace K14
open PySem PySem.Spec PyProof.Rows L2 NdefX K14H
/-- the names of the errors by their kind, their field, what it holds -/
def exName : Nat → Str
  | 0 => "NoName"
  | 1 => "BadAnswer"
  | 2 => "BadOpening"
  | 3 => "BadText"
  | 4 => "TooMany"
  | 5 => "BadWeb"
  | 6 => "NoSights"
  | 7 => "TooLarge"
  | 8 => "BadBook"
  | 9 => "NoLine"
  | _ => "NothingDone"
def fName : Nat → Str
  | 0 => "name"
  | 2 => "filling"
  | 3 => "line"
  | 4 => "most"
  | 5 => "part"
  | 6 => "index"
  | 7 => "most"
  | _ => "part"
def fldD : Nat → Int → D
  | 0, x => .int x
  | 1, x => .tup [.int x, .tup [.int x, .int 1]]
  | 2, x => .tup [.int x]
  | 3, x => .int x
  | 4, x => .int x
  | 5, x => .str (toString x)
  | 6, x => .int x
  | 7, x => .lst [.int x]
  | 8, _ => .non
  | _, _ => .int 0
def FldOk (K : PySem.W.Frag) (H : Hp) (k : Nat) (x : Int) (fs : List (Str × V)) : Prop :=
  if k = 1 then fs.lookup ("one" : Str) = some (.int x) ∧ ∃ v, fs.lookup ("other" : Str) = some v ∧ At K H (.tup [.int x, .int 1]) v else ∃ v, fs.lookup (fName k) = some v ∧ At K H (fldD k x) v
def ExnOk (K : PySem.W.Frag) (H : Hp) (k : Nat) (x : Int) (cls : Value) (d : Option Addr) (H' : Hp) : Prop :=
  Ext H H' ∧ cls = .ref (He.ga K (exName k)) ∧ (k < 9 → ∃ dd fs, d = some dd ∧ H' dd = some (.xd fs) ∧ FldOk K H' k x fs)
theorem skipIf {k j : Int} {A B : Prop} (h : k ≠ j) (hb : B) : if decide (V.int k = V.int j) = true then A else B := by
  rw [dec_V, show decide (k = j) = false from decide_eq_false h]
  exact hb
theorem takeIf {k j : Int} {A B : Prop} (h : k = j) (ha : A) : if decide (V.int k = V.int j) = true then A else B := by
  rw [dec_V, show decide (k = j) = true from decide_eq_true h]
  exact ha
/-- the heap behind the making of an error with a dict -/
theorem made_heap {H : Hp} {a dx : Addr} {o1 o2 o3 : HO} {u : HO} (ha : H a = none) (hd : dx ≠ a) : upd (del (upd (upd (upd H a o1) dx o2) a o3) a) dx u = upd H dx u := by
  funext b
  by_cases h1 : b = dx
  · rw [h1, upd_same, upd_same]
  · rw [upd_ne h1, upd_ne h1]
    by_cases h2 : b = a
    · rw [h2, del_same, ha]
    · rw [del_ne h2, upd_ne h2, upd_ne h1, upd_ne h2]
theorem made_heap2 {H : Hp} {a dx : Addr} {o1 o2 o3 o4 : HO} {u : HO} (ha : H a = none) (hd : dx ≠ a) : upd (del (upd (upd (upd (upd H a o1) dx o2) a o3) dx o4) a) dx u = upd H dx u := by
  funext b
  by_cases h1 : b = dx
  · rw [h1, upd_same, upd_same]
  · rw [upd_ne h1, upd_ne h1]
    by_cases h2 : b = a
    · rw [h2, del_same, ha]
    · rw [del_ne h2, upd_ne h1, upd_ne h2, upd_ne h1, upd_ne h2]
theorem none_upd {H : Hp} {a dx : Addr} {o : HO} (h : upd H a o dx = none) : H dx = none := by
  unfold upd at h
  split at h
  · cases h
  · exact h
section
variable {P : Program} {w : World} {K : PySem.W.Frag} {mg : Str → Option Value} {base : Heap}
abbrev s__law_raised : Stmt := top 90
abbrev N__law_raised : List Str := ["_law_kind", "_law_part"]
theorem sc__law_raised : FnScope N__law_raised ["_law_kind", "_law_part"] (C8.fnScope s__law_raised) := C8.fnScope_by (by decide +kernel)
def sp_raised (K : PySem.W.Frag) : Sp := fun vs H Q E => ∃ (k : Nat) (x : Int), vs = [.int (k : Int), .int x] ∧ k ≤ 10 ∧ x.natAbs.log2 < 1920 ∧ ∀ cls d H', ExnOk K H k x cls d H' → E cls d H'
theorem c_raised (U : TxtE P K mg) : CalX P w K mg base 3 "_law_raised" (sp_raised K) := by
  have T := U.t
  have XNoName : ExT K xNoName := U.ex _ (by simp [exs, xNoName])
  obtain ⟨fNoName, FNoName, bNoName⟩ := i_NoName (P := P) (w := w) (mg := mg) (base := base) XNoName U.third U.file T.z_super
  have XBadAnswer : ExT K xBadAnswer := U.ex _ (by simp [exs, xBadAnswer])
  obtain ⟨fBadAnswer, FBadAnswer, bBadAnswer⟩ := i_BadAnswer (P := P) (w := w) (mg := mg) (base := base) XBadAnswer U.third U.file T.z_super
  have XBadOpening : ExT K xBadOpening := U.ex _ (by simp [exs, xBadOpening])
  obtain ⟨fBadOpening, FBadOpening, bBadOpening⟩ := i_BadOpening (P := P) (w := w) (mg := mg) (base := base) XBadOpening U.third U.file T.z_super
  have XBadText : ExT K xBadText := U.ex _ (by simp [exs, xBadText])
  obtain ⟨fBadText, FBadText, bBadText⟩ := i_BadText (P := P) (w := w) (mg := mg) (base := base) XBadText U.third U.file T.z_super
  have XTooMany : ExT K xTooMany := U.ex _ (by simp [exs, xTooMany])
  obtain ⟨fTooMany, FTooMany, bTooMany⟩ := i_TooMany (P := P) (w := w) (mg := mg) (base := base) XTooMany U.third U.file T.z_super
  have XBadWeb : ExT K xBadWeb := U.ex _ (by simp [exs, xBadWeb])
  obtain ⟨fBadWeb, FBadWeb, bBadWeb⟩ := i_BadWeb (P := P) (w := w) (mg := mg) (base := base) XBadWeb U.third U.file T.z_super
  have XNoSights : ExT K xNoSights := U.ex _ (by simp [exs, xNoSights])
  obtain ⟨fNoSights, FNoSights, bNoSights⟩ := i_NoSights (P := P) (w := w) (mg := mg) (base := base) XNoSights U.third U.file T.z_super
  have XTooLarge : ExT K xTooLarge := U.ex _ (by simp [exs, xTooLarge])
  obtain ⟨fTooLarge, FTooLarge, bTooLarge⟩ := i_TooLarge (P := P) (w := w) (mg := mg) (base := base) XTooLarge U.third U.file T.z_super
  have XBadBook : ExT K xBadBook := U.ex _ (by simp [exs, xBadBook])
  obtain ⟨fBadBook, FBadBook, bBadBook⟩ := i_BadBook (P := P) (w := w) (mg := mg) (base := base) XBadBook U.third U.file T.z_super
  have XNoLine : ExT K xNoLine := U.ex _ (by simp [exs, xNoLine])
  obtain ⟨fNoLine, FNoLine, bNoLine⟩ := i_NoLine (P := P) (w := w) (mg := mg) (base := base) XNoLine U.third U.file T.z_super
  have XNothingDone : ExT K xNothingDone := U.ex _ (by simp [exs, xNothingDone])
  obtain ⟨fNothingDone, FNothingDone, bNothingDone⟩ := i_NothingDone (P := P) (w := w) (mg := mg) (base := base) XNothingDone U.third U.file T.z_super
  refine calX T.d__law_raised sc__law_raised (fun vs H Q E ⟨k, x, e, _⟩ => by rw [e]; rfl) fun f cdv A outer s H vs Q E hr h => ⟨_, (pss_cons (ps_if (pt_cmpR op_eq (pv 0) pe_int (nomark _)) (pss_one (ps_raise rfl (takes_of rfl rfl rfl rfl) (pmk_oex XNoName.oex XNoName.ini XNoName.tyI FNoName (hr.mono (by decide)) bNoName .nil C8.pass0 (by rfl) T.g_NoName (pa_cons (pv 1) pa_nil)))) pss_nil)
    (pss_cons (ps_if (pt_cmpR op_eq (pv 0) pe_int (nomark _)) (pss_one (ps_raise rfl (takes_of rfl rfl rfl rfl) (pmk_oex XBadAnswer.oex XBadAnswer.ini XBadAnswer.tyI FBadAnswer (hr.mono (by decide)) bBadAnswer .nil C8.pass0 (by rfl) T.g_BadAnswer (pa_cons (pv 1) (pa_cons (pe_tup (pa_cons (pv 1) (pa_cons pe_int pa_nil))) pa_nil))))) pss_nil)
    (pss_cons (ps_if (pt_cmpR op_eq (pv 0) pe_int (nomark _)) (pss_one (ps_raise rfl (takes_of rfl rfl rfl rfl) (pmk_oex XBadOpening.oex XBadOpening.ini XBadOpening.tyI FBadOpening (hr.mono (by decide)) bBadOpening .nil C8.pass0 (by rfl) T.g_BadOpening (pa_cons (pe_tup (pa_cons (pv 1) pa_nil)) pa_nil)))) pss_nil)
    (pss_cons (ps_if (pt_cmpR op_eq (pv 0) pe_int (nomark _)) (pss_one (ps_raise rfl (takes_of rfl rfl rfl rfl) (pmk_oex XBadText.oex XBadText.ini XBadText.tyI FBadText (hr.mono (by decide)) bBadText .nil C8.pass0 (by rfl) T.g_BadText (pa_cons (pv 1) pa_nil)))) pss_nil)
    (pss_cons (ps_if (pt_cmpR op_eq (pv 0) pe_int (nomark _)) (pss_one (ps_raise rfl (takes_of rfl rfl rfl rfl) (pmk_oex XTooMany.oex XTooMany.ini XTooMany.tyI FTooMany (hr.mono (by decide)) bTooMany .nil C8.pass0 (by rfl) T.g_TooMany (pa_cons (pv 1) pa_nil)))) pss_nil)
    (pss_cons (ps_if (pt_cmpR op_eq (pv 0) pe_int (nomark _)) (pss_one (ps_raise rfl (takes_of rfl rfl rfl rfl) (pmk_oex XBadWeb.oex XBadWeb.ini XBadWeb.tyI FBadWeb (hr.mono (by decide)) bBadWeb .nil C8.pass0 (by rfl) T.g_BadWeb (pa_cons (pe_callTy call_str_int (by rfl) T.z_str (by decide +kernel) (pa_cons (pv 1) pa_nil)) pa_nil)))) pss_nil)
    (pss_cons (ps_if (pt_cmpR op_eq (pv 0) pe_int (nomark _)) (pss_one (ps_raise rfl (takes_of rfl rfl rfl rfl) (pmk_oex XNoSights.oex XNoSights.ini XNoSights.tyI FNoSights (hr.mono (by decide)) bNoSights .nil C8.pass0 (by rfl) T.g_NoSights (pa_cons (pv 1) pa_nil)))) pss_nil)
    (pss_cons (ps_if (pt_cmpR op_eq (pv 0) pe_int (nomark _)) (pss_one (ps_raise rfl (takes_of rfl rfl rfl rfl) (pmk_oex XTooLarge.oex XTooLarge.ini XTooLarge.tyI FTooLarge (hr.mono (by decide)) bTooLarge .nil C8.pass0 (by rfl) T.g_TooLarge (pa_cons (pe_lst (pa_cons (pv 1) pa_nil)) pa_nil)))) pss_nil)
    (pss_cons (ps_if (pt_cmpR op_eq (pv 0) pe_int (nomark _)) (pss_one (ps_raise rfl (takes_of rfl rfl rfl rfl) (pmk_oex XBadBook.oex XBadBook.ini XBadBook.tyI FBadBook (hr.mono (by decide)) bBadBook .nil C8.pass0 (by rfl) T.g_BadBook (pa_cons pe_non pa_nil)))) pss_nil)
    (pss_cons (ps_if (pt_cmpR op_eq (pv 0) pe_int (nomark _)) (pss_one (ps_raise rfl (takes_of rfl rfl rfl rfl) (pmk_oex0 XNoLine.oex XNoLine.ini XNoLine.tyI FNoLine (hr.mono (by decide)) bNoLine C8.pass0 (by rfl) T.g_NoLine))) pss_nil)
    (pss_one (ps_raise rfl (takes_of rfl rfl rfl rfl) (pmk_oex0 XNothingDone.oex XNothingDone.ini XNothingDone.tyI FNothingDone (hr.mono (by decide)) bNothingDone C8.pass0 (by rfl) T.g_NothingDone))))))))))))), ?_⟩
  obtain ⟨k, x, rfl, hk, hx, q⟩ := h
  have hk' : k = 0 ∨ k = 1 ∨ k = 2 ∨ k = 3 ∨ k = 4 ∨ k = 5 ∨ k = 6 ∨ k = 7 ∨ k = 8 ∨ k = 9 ∨ k = 10 := by omega
  have one : ∀ {H1 : Hp} {k : Nat} {f : Str} {v : V} {C : Addr}, Ext H H1 → k < 9 → k ≠ 1 → f = fName k → C = He.ga K (exName k) → (∀ dx, H1 dx = none → At K (upd H1 dx (.xd [(f, v)])) (fldD k x) v) → (∀ cls d H', ExnOk K H k x cls d H' → E cls d H') →
      ([v] : List V).length ≤ 1000 ∧ ∀ a, H1 a = none → sp_ex1 C f [.ref a, v] (upd H1 a (exo a C none)) (fun v H2 => v = .non ∧ ∃ (d : Addr) (fs : List (Str × V)), H2 a = some (exo a C (some d)) ∧ H2 d = some (exd d fs) ∧ H1 d = none ∧ E (.ref C) (some d) (upd (del H2 a) d (.xd fs))) (fun _ _ _ => False) := by
    intro H1 k f v C e1 hk h1 hf hC ha hq
    refine ⟨(by show 1 ≤ 1000; decide), fun a hn => ⟨a, v, rfl, upd_same, fun dx hd ne => ⟨rfl, dx, _, upd_same, (by rw [upd_ne ne]; exact upd_same), none_upd hd, ?_⟩⟩⟩
    rw [made_heap hn ne]
    refine hq _ _ _ ⟨e1.trans (Ext.new (none_upd hd)), by rw [hC], fun _ => ⟨dx, _, rfl, upd_same, ?_⟩⟩
    unfold FldOk
    rw [if_neg h1]
    refine ⟨v, ?_, ha dx (none_upd hd)⟩
    rw [← hf]
    simp
  rcases hk' with rfl | rfl | rfl | rfl | rfl | rfl | rfl | rfl | rfl | rfl | rfl
  · refine ⟨_, rfl, rfl, _, rfl, takeIf rfl ?_⟩
    exact ⟨_, rfl, one (k := 0) (Ext.refl H) (by decide) (by decide) rfl rfl (fun _ _ => rfl) q⟩
  · refine ⟨_, rfl, rfl, _, rfl, skipIf (by decide) ?_⟩
    refine ⟨_, rfl, rfl, _, rfl, takeIf rfl ?_⟩
    refine ⟨_, rfl, _, rfl, (by show 2 ≤ sizeLine; decide), fun T1 hT1 => ⟨(by show 2 ≤ 1000; decide), fun a hn => ⟨a, _, _, rfl, upd_same, fun dx hd ne => ⟨rfl, dx, _, ?_, upd_same, none_upd hd, ?_⟩⟩⟩⟩
    · rw [upd_ne (Ne.symm ne)]
      exact upd_same
    · rw [made_heap2 hn ne]
      refine q _ _ _ ⟨(Ext.new hT1).trans (Ext.new (none_upd hd)), rfl, fun _ => ⟨dx, _, rfl, upd_same, ?_⟩⟩
      show _ ∧ _
      exact ⟨rfl, _, rfl, T1, _, rfl, (Ext.new (none_upd hd)).sqT (tupOf upd_same), _, _, rfl, rfl, _, _, rfl, rfl, rfl⟩
  · refine ⟨_, rfl, rfl, _, rfl, skipIf (by decide) ?_⟩
    refine ⟨_, rfl, rfl, _, rfl, skipIf (by decide) ?_⟩
    refine ⟨_, rfl, rfl, _, rfl, takeIf rfl ?_⟩
    exact ⟨_, rfl, (by show 1 ≤ sizeLine; decide), fun T1 hT1 => one (k := 2) (Ext.new hT1) (by decide) (by decide) rfl rfl (fun dx hd => ⟨T1, _, rfl, (Ext.new hd).sqT (tupOf upd_same), _, _, rfl, rfl, rfl⟩) q⟩
  · refine ⟨_, rfl, rfl, _, rfl, skipIf (by decide) ?_⟩
    refine ⟨_, rfl, rfl, _, rfl, skipIf (by decide) ?_⟩
    refine ⟨_, rfl, rfl, _, rfl, skipIf (by decide) ?_⟩
    refine ⟨_, rfl, rfl, _, rfl, takeIf rfl ?_⟩
    exact ⟨_, rfl, one (k := 3) (Ext.refl H) (by decide) (by decide) rfl rfl (fun _ _ => rfl) q⟩
  · refine ⟨_, rfl, rfl, _, rfl, skipIf (by decide) ?_⟩
    refine ⟨_, rfl, rfl, _, rfl, skipIf (by decide) ?_⟩
    refine ⟨_, rfl, rfl, _, rfl, skipIf (by decide) ?_⟩
    refine ⟨_, rfl, rfl, _, rfl, skipIf (by decide) ?_⟩
    refine ⟨_, rfl, rfl, _, rfl, takeIf rfl ?_⟩
    exact ⟨_, rfl, one (k := 4) (Ext.refl H) (by decide) (by decide) rfl rfl (fun _ _ => rfl) q⟩
  · refine ⟨_, rfl, rfl, _, rfl, skipIf (by decide) ?_⟩
    refine ⟨_, rfl, rfl, _, rfl, skipIf (by decide) ?_⟩
    refine ⟨_, rfl, rfl, _, rfl, skipIf (by decide) ?_⟩
    refine ⟨_, rfl, rfl, _, rfl, skipIf (by decide) ?_⟩
    refine ⟨_, rfl, rfl, _, rfl, skipIf (by decide) ?_⟩
    refine ⟨_, rfl, rfl, _, rfl, takeIf rfl ?_⟩
    exact ⟨_, rfl, x, rfl, hx, one (k := 5) (Ext.refl H) (by decide) (by decide) rfl rfl (fun _ _ => rfl) q⟩
  · refine ⟨_, rfl, rfl, _, rfl, skipIf (by decide) ?_⟩
    refine ⟨_, rfl, rfl, _, rfl, skipIf (by decide) ?_⟩
    refine ⟨_, rfl, rfl, _, rfl, skipIf (by decide) ?_⟩
    refine ⟨_, rfl, rfl, _, rfl, skipIf (by decide) ?_⟩
    refine ⟨_, rfl, rfl, _, rfl, skipIf (by decide) ?_⟩
    refine ⟨_, rfl, rfl, _, rfl, skipIf (by decide) ?_⟩
    refine ⟨_, rfl, rfl, _, rfl, takeIf rfl ?_⟩
    exact ⟨_, rfl, one (k := 6) (Ext.refl H) (by decide) (by decide) rfl rfl (fun _ _ => rfl) q⟩
  · refine ⟨_, rfl, rfl, _, rfl, skipIf (by decide) ?_⟩
    refine ⟨_, rfl, rfl, _, rfl, skipIf (by decide) ?_⟩
    refine ⟨_, rfl, rfl, _, rfl, skipIf (by decide) ?_⟩
    refine ⟨_, rfl, rfl, _, rfl, skipIf (by decide) ?_⟩
    refine ⟨_, rfl, rfl, _, rfl, skipIf (by decide) ?_⟩
    refine ⟨_, rfl, rfl, _, rfl, skipIf (by decide) ?_⟩
    refine ⟨_, rfl, rfl, _, rfl, skipIf (by decide) ?_⟩
    refine ⟨_, rfl, rfl, _, rfl, takeIf rfl ?_⟩
    exact ⟨_, rfl, (by show 1 ≤ sizeLine; decide), fun T1 hT1 => one (k := 7) (Ext.new hT1) (by decide) (by decide) rfl rfl (fun dx hd => ⟨T1, _, rfl, (Ext.new hd).sqL (lstOf upd_same), _, _, rfl, rfl, rfl⟩) q⟩
  · refine ⟨_, rfl, rfl, _, rfl, skipIf (by decide) ?_⟩
    refine ⟨_, rfl, rfl, _, rfl, skipIf (by decide) ?_⟩
    refine ⟨_, rfl, rfl, _, rfl, skipIf (by decide) ?_⟩
    refine ⟨_, rfl, rfl, _, rfl, skipIf (by decide) ?_⟩
    refine ⟨_, rfl, rfl, _, rfl, skipIf (by decide) ?_⟩
    refine ⟨_, rfl, rfl, _, rfl, skipIf (by decide) ?_⟩
    refine ⟨_, rfl, rfl, _, rfl, skipIf (by decide) ?_⟩
    refine ⟨_, rfl, rfl, _, rfl, skipIf (by decide) ?_⟩
    refine ⟨_, rfl, rfl, _, rfl, takeIf rfl ?_⟩
    exact one (k := 8) (Ext.refl H) (by decide) (by decide) rfl rfl (fun _ _ => rfl) q
  · refine ⟨_, rfl, rfl, _, rfl, skipIf (by decide) ?_⟩
    refine ⟨_, rfl, rfl, _, rfl, skipIf (by decide) ?_⟩
    refine ⟨_, rfl, rfl, _, rfl, skipIf (by decide) ?_⟩
    refine ⟨_, rfl, rfl, _, rfl, skipIf (by decide) ?_⟩
    refine ⟨_, rfl, rfl, _, rfl, skipIf (by decide) ?_⟩
    refine ⟨_, rfl, rfl, _, rfl, skipIf (by decide) ?_⟩
    refine ⟨_, rfl, rfl, _, rfl, skipIf (by decide) ?_⟩
    refine ⟨_, rfl, rfl, _, rfl, skipIf (by decide) ?_⟩
    refine ⟨_, rfl, rfl, _, rfl, skipIf (by decide) ?_⟩
    refine ⟨_, rfl, rfl, _, rfl, takeIf rfl ?_⟩
    intro a ha
    exact ⟨a, rfl, upd_same, rfl, rfl, q _ _ _ ⟨Ext.refl H, rfl, fun z => absurd z (by decide)⟩⟩
  · refine ⟨_, rfl, rfl, _, rfl, skipIf (by decide) ?_⟩
    refine ⟨_, rfl, rfl, _, rfl, skipIf (by decide) ?_⟩
    refine ⟨_, rfl, rfl, _, rfl, skipIf (by decide) ?_⟩
    refine ⟨_, rfl, rfl, _, rfl, skipIf (by decide) ?_⟩
    refine ⟨_, rfl, rfl, _, rfl, skipIf (by decide) ?_⟩
    refine ⟨_, rfl, rfl, _, rfl, skipIf (by decide) ?_⟩
    refine ⟨_, rfl, rfl, _, rfl, skipIf (by decide) ?_⟩
    refine ⟨_, rfl, rfl, _, rfl, skipIf (by decide) ?_⟩
    refine ⟨_, rfl, rfl, _, rfl, skipIf (by decide) ?_⟩
    refine ⟨_, rfl, rfl, _, rfl, skipIf (by decide) ?_⟩
    intro a ha
    exact ⟨a, rfl, upd_same, rfl, rfl, q _ _ _ ⟨Ext.refl H, rfl, fun z => absurd z (by decide)⟩⟩
end
end K14
end
section
/-! 9. plays. -/
namespace K14
open PySem PySem.Spec PyProof.Rows L2 RZ K14H
/-- all that was tracked is so still, but for what stands at S -/
def Kp (S : List Addr) (H H' : Hp) : Prop := ∀ b o, H b = some o → b ∉ S → H' b = some o
theorem Ext.kp {S : List Addr} {H H' : Hp} (e : Ext H H') : Kp S H H' := fun b o h _ => e b o h
theorem Kp.trans {S : List Addr} {A B C : Hp} (a : Kp S A B) (b : Kp S B C) : Kp S A C := fun x o h n => b x o (a x o h n) n
theorem Kp.mono {S T : List Addr} {A B : Hp} (a : Kp S A B) (h : ∀ x ∈ S, x ∈ T) : Kp T A B := fun x o e n => a x o e fun z => n (h x z)
theorem Kp.upd {S : List Addr} {H : Hp} {a : Addr} {o : HO} (h : a ∈ S) : Kp S H (L2.upd H a o) := fun b u e n => by
  rw [upd_ne fun z => n (by rw [z]; exact h)]
  exact e
/-- a part of the heap that never changes -/
theorem Ext.under {S : List Addr} {B H H' : Hp} (e : Ext B H) (k : Kp S H H') (h : ∀ s ∈ S, B s = none) : Ext B H' := fun b o q => k b o (e b o q) fun z => by
  rw [h b z] at q
  cases q
theorem Ext.out {B H : Hp} {a : Addr} (e : Ext B H) (h : H a = none) : B a = none := by
  cases q : B a with
  | none => rfl
  | some o => rw [e a o q] at h; cases h
structure En where
  op : Option (List Int)
  nums : List Int
  fil : List Int
def dEn (e : En) : D := .tup [dOp e.op, dInts e.nums, dInts e.fil]
def nowR (f0 : List Int) (R : List En) : List Int := match R.getLast? with
  | some e => e.fil
  | none => f0
def enN (ws : List Int) (ps : List Pipe) (f : List Int) (op : Option (List Int)) : En := ⟨op, numsN ws ps f op, movedN ws f (netsN ws.length ps (numsN ws ps f op))⟩
def amountN (xs : List Int) : Int := (xs.map iabs).sum
def ranN (R : List En) : Int := (R.map fun e => amountN e.nums).sum
theorem pure_op : ∀ op, pureD (dOp op) = true
  | none => rfl
  | some l => pure_ints l
theorem pure_en (e : En) : pureD (dEn e) = true := by
  show (pureD (dOp e.op) && (pureD (dInts e.nums) && (pureD (dInts e.fil) && true))) = true
  rw [pure_op, pure_ints, pure_ints] <;> rfl
theorem at_en {K : PySem.W.Frag} {H : Hp} {e : En} {v : V} (h : At K H (dEn e) v) : ∃ a u1 a2 a3, v = .ref a ∧ SqT K H a [u1, .ref a2, .ref a3] ∧ At K H (dOp e.op) u1 ∧ Is K H a2 e.nums ∧ Is K H a3 e.fil := by
  obtain ⟨a, xs, h1, h2, v1, r1, e1, h3, v2, r2, e2, h4, v3, r3, e3, h5, e4⟩ := h
  have e4 : r3 = [] := e4
  obtain ⟨a2, z2, g4⟩ := at_ints h4
  obtain ⟨a3, z3, g5⟩ := at_ints h5
  subst z2 z3 e4 e3 e2 e1
  exact ⟨a, v1, a2, a3, h1, h2, h3, g4, g5⟩
theorem moved_len (ws f ns : List Int) : (movedN ws f ns).length = ws.length := by
  unfold movedN
  rw [List.length_map, List.length_range]
theorem vfil_moved (ws f ns : List Int) : VFil ws (movedN ws f ns) := by
  refine ⟨moved_len ws f ns, fun k hk h0 => ?_⟩
  unfold wd movedN
  rw [List.getD_eq_getElem?_getD, List.getElem?_map, List.getElem?_range hk]
  show (if wd ws k = 0 then 0 else wd f k - wd ns k) = 0
  rw [if_pos h0]
theorem nums_len (ws : List Int) (ps : List Pipe) (f : List Int) (op : Option (List Int)) : (numsN ws ps f op).length = ps.length := by
  unfold numsN openN
  rw [List.length_map, List.length_range, List.length_map]
abbrev CP (K : PySem.W.Frag) : Addr := He.ga K "Play"
abbrev plF (wb b l : Addr) : List (Str × V) := [("web", .ref wb), ("begun", .ref b), ("past", .ref l)]
/-- the play at p, its past at l; B: what never changes, the web therein -/
structure PlayAt (K : PySem.W.Frag) (B H : Hp) (p l wb : Addr) (ws : List Int) (ps : List Pipe) (f0 : List Int) (R : List En) : Prop where
  ex : ∃ dx b xs, H p = some (.ins (CP K) dx (plF wb b l)) ∧ Is K H b f0 ∧ H l = some (.lst xs) ∧ Ats K H (R.map dEn) xs
  ext : Ext B H
  web : WebAt K B wb ws ps
  bp : B p = none
  bl : B l = none
  vw : VWidths ws
  vp : VPipes ws ps
  vf : VFil ws f0
  good : ∀ e ∈ R, VFil ws e.fil
theorem PlayAt.kp {K : PySem.W.Frag} {B H H' : Hp} {p l wb : Addr} {ws : List Int} {ps : List Pipe} {f0 : List Int} {R : List En} {S : List Addr} (P : PlayAt K B H p l wb ws ps f0 R) (k : Kp S H H') (hs : ∀ s ∈ S, B s = none) (hp : p ∉ S) (hl : l ∉ S) (t : Tk H H') : PlayAt K B H' p l wb ws ps f0 R := by
  obtain ⟨dx, b, xs, h1, h2, h3, h4⟩ := P.ex
  exact ⟨⟨dx, b, xs, k _ _ h1 hp, t.sqT h2, k _ _ h3 hl, h4.tk t (pures_of pure_en R)⟩, P.ext.under k hs, P.web, P.bp, P.bl, P.vw, P.vp, P.vf, P.good⟩
theorem PlayAt.e {K : PySem.W.Frag} {B H H' : Hp} {p l wb : Addr} {ws : List Int} {ps : List Pipe} {f0 : List Int} {R : List En} (P : PlayAt K B H p l wb ws ps f0 R) (e : Ext H H') : PlayAt K B H' p l wb ws ps f0 R :=
  P.kp (S := []) e.kp (fun _ h => absurd h (by simp)) (by simp) (by simp) e.tk
theorem now_good {ws : List Int} {f0 : List Int} {R : List En} (h0 : VFil ws f0) (h : ∀ e ∈ R, VFil ws e.fil) : VFil ws (nowR f0 R) := by
  unfold nowR
  cases q : R.getLast? with
  | none => exact h0
  | some e => exact h e (List.mem_of_getLast? q)
section
variable {P : Program} {w : World} {K : PySem.W.Frag} {mg : Str → Option Value} {base : Heap}
abbrev s_Play___init__ : Stmt := inClass (top 54) 0
abbrev N_Play___init__ : List Str := ["self", "web", "filling"]
theorem sc_Play___init__ : FnScope N_Play___init__ ["self", "web", "filling"] (C8.fnScope s_Play___init__) := C8.fnScope_by (by decide +kernel)
def sp_mkPlay (K : PySem.W.Frag) : Sp := fun vs H Q _ => ∃ (B : Hp) (p dx wb b : Addr) (ws : List Int) (ps : List Pipe) (f0 : List Int), vs = [.ref p, .ref wb, .ref b] ∧ H p = some (.ins (CP K) dx []) ∧ Ext B H ∧ B p = none ∧ WebAt K B wb ws ps ∧ VWidths ws ∧ VPipes ws ps ∧ Is K H b f0 ∧ VFil ws f0 ∧
  ∀ l H', Kp [p] H H' → H l = none → PlayAt K B H' p l wb ws ps f0 [] → Q .non H'
theorem c_mkPlay (T : Txt K mg) : C8.Mak P w K mg base 5 "Play" (CP K) (sp_mkPlay K) [] := by
  obtain ⟨f, fd, me, F, b⟩ := T.e_Play_init
  have ef : f = He.ma K (CP K) "__init__" := by
    have e1 := T.k_Play.init
    have e2 := me.at_
    rw [e1] at e2
    cases e2
    rfl
  refine C8.mak0 (f := f) (by rw [ef]; exact T.k_Play) T.g_Play F b .nil sc_Play___init__ (fun vs H Q E ⟨B, p, dx, wb, b, ws, ps, f0, e, _⟩ => by rw [e]; rfl) fun cdv A outer s H vs Q E hr h => ⟨_, (pss_cons (ps_expr (C8.pe_c (c_check_filling T) hr (by decide) (by rfl) (pa_cons (pv 1) (pa_cons (pv 2) pa_nil))))
    (pss_cons (ps_fld (pv 0) (pv 1) rfl)
    (pss_cons (ps_fld (pv 0) (pv 2) rfl)
    (pss_one (ps_fld (pv 0) (pe_lst pa_nil) rfl))))), ?_⟩
  obtain ⟨B, p, dx, wb, b, ws, ps, f0, rfl, hp, hB, hBp, hW, hv, hvp, hb, hf, q⟩ := h
  refine ⟨_, rfl, _, rfl, wb, b, ws, ps, f0, rfl, hW.ext hB, hv.2.1, hb, hf, fun x hx => (hv.2.2 x hx).1, fun H1 e1 => ?_⟩
  have hp1 := e1 _ _ hp
  refine ⟨_, rfl, _, rfl, p, _, dx, _, rfl, hp1, T.c_Play, T.n_Play_web, (by show 0 < 1000; decide), ?_⟩
  refine ⟨_, rfl, _, rfl, p, _, dx, _, rfl, upd_same, T.c_Play, T.n_Play_begun, (by show 1 < 1000; decide), ?_⟩
  refine ⟨(by show 0 ≤ sizeLine; decide), fun l hl => ⟨_, rfl, p, CP K, dx, putF "begun" (.ref b) (putF "web" (.ref wb) []), rfl, ?_, T.c_Play, T.n_Play_past, (by show 2 < 1000; decide), ?_⟩⟩
  · rw [upd_ne fun z => by rw [← z, upd_same] at hl; cases hl]
    exact upd_same
  · have hl1 : H1 l = none := none_upd (none_upd hl)
    have hlH : H l = none := by
      cases z : H l with
      | none => rfl
      | some o => rw [e1 l o z] at hl1; cases hl1
    have hlp : l ≠ p := fun z => by rw [z, hp1] at hl1; cases hl1
    have k1 : Kp [p] H1 (upd (upd (upd (upd H1 p (.ins (CP K) dx (putF "web" (.ref wb) []))) p (.ins (CP K) dx (putF "begun" (.ref b) (putF "web" (.ref wb) [])))) l (.lst [])) p (.ins (CP K) dx (plF wb b l))) :=
      ((Kp.upd (by simp)).trans (Kp.upd (by simp))).trans ((Ext.new hl).kp.trans (Kp.upd (by simp)))
    have t1 : Tk H1 (upd (upd (upd (upd H1 p (.ins (CP K) dx (putF "web" (.ref wb) []))) p (.ins (CP K) dx (putF "begun" (.ref b) (putF "web" (.ref wb) [])))) l (.lst [])) p (.ins (CP K) dx (plF wb b l))) :=
      (((Tk.upd hp1 trivial).trans (Tk.upd (o := .ins (CP K) dx (putF "web" (.ref wb) [])) upd_same trivial)).trans (Ext.new hl).tk).trans (Tk.upd (o := .ins (CP K) dx (putF "begun" (.ref b) (putF "web" (.ref wb) []))) (by rw [upd_ne (Ne.symm hlp)]; exact upd_same) trivial)
    refine q l _ (e1.kp.trans k1) hlH ⟨⟨dx, b, [], upd_same, t1.sqT (e1.sqT hb), ?_, rfl⟩, (hB.trans e1).under k1 (fun s hs => by rw [List.mem_singleton.mp hs]; exact hBp), hW, hBp, hB.out hlH, hv, hvp, hf, fun e he => absurd he (by simp)⟩
    rw [upd_ne hlp]
    exact upd_same
abbrev s_Play_now : Stmt := inClass (top 54) 1
abbrev N_Play_now : List Str := ["self"]
theorem sc_Play_now : FnScope N_Play_now ["self"] (C8.fnScope s_Play_now) := C8.fnScope_by (by decide +kernel)
def sp_now (K : PySem.W.Frag) : Sp := fun vs H Q _ => ∃ (B : Hp) (p l wb : Addr) (ws : List Int) (ps : List Pipe) (f0 : List Int) (R : List En), vs = [.ref p] ∧ PlayAt K B H p l wb ws ps f0 R ∧ ∀ a, Is K H a (nowR f0 R) → Q (.ref a) H
theorem m_now (T : Txt K mg) : C8.Met P w K mg base 1 (CP K) "now" (sp_now K) [] := by
  refine metD T.c_Play T.e_Play_now sc_Play_now (fun vs H Q E ⟨B, p, l, wb, ws, ps, f0, R, e, _⟩ => by rw [e]; rfl) fun f cdv A outer s H vs Q E hr h => ⟨_, (pss_one (ps_ret (pe_ifExp (pt_cmpR op_gt (pe_callB call_len_seq (by rfl) T.z_len (by decide +kernel) (pa_cons (pe_fld (pv 0) rfl) pa_nil)) pe_int (nomark _)) (pe_ix (ix_k (K := K) rfl) (pe_ix (ix_k (K := K) rfl) (pe_fld (pv 0) rfl) (pe_un un_neg pe_int) (fun _ _ => rfl)) pe_int (fun _ _ => rfl)) (pe_fld (pv 0) rfl)))), ?_⟩
  obtain ⟨B, p, l, wb, ws, ps, f0, R, rfl, hP, q⟩ := h
  obtain ⟨dx, b, xs, h1, h2, h3, h4⟩ := hP.ex
  have hl : xs.length = R.length := by rw [h4.len, List.length_map]
  refine ⟨_, rfl, p, _, dx, _, _, rfl, h1, T.c_Play, T.n_Play_past, rfl, l, xs, rfl, .inl (lstOf h3), _, _, rfl, rfl, _, rfl, ?_⟩
  show if decide ((0 : Int) < ((xs.length : Nat) : Int)) = true then _ else _
  cases hR : R.getLast? with
  | none =>
    have e0 : R = [] := List.getLast?_eq_none_iff.mp hR
    subst e0
    rw [show decide ((0 : Int) < ((xs.length : Nat) : Int)) = false from decide_eq_false (by rw [hl]; simp)]
    refine ⟨_, rfl, p, _, dx, _, _, rfl, h1, T.c_Play, T.n_Play_begun, rfl, q b h2⟩
  | some e =>
    have hn : 0 < R.length := by
      cases R with
      | nil => cases hR
      | cons a r => simp
    rw [show decide ((0 : Int) < ((xs.length : Nat) : Int)) = true from decide_eq_true (by omega)]
    have ge : (R.map dEn)[R.length - 1]? = some (dEn e) := by
      rw [List.getElem?_map, ← List.getLast?_eq_getElem?, hR] <;> rfl
    obtain ⟨v, gv, hv⟩ := h4.get' ge
    obtain ⟨t, u1, a2, a3, rfl, ht, hu, ha2, ha3⟩ := at_en hv
    rw [← hl] at gv
    refine ⟨_, rfl, p, _, dx, _, _, rfl, h1, T.c_Play, T.n_Play_past, rfl, _, rfl, l, xs, _, _, rfl, rfl, .inl (lstOf h3), atI_last gv, t, _, 2, _, rfl, rfl, .inr ht, rfl, q a3 ?_⟩
    unfold nowR
    rw [hR]
    exact ha3
abbrev s_Play_tick : Stmt := inClass (top 54) 2
abbrev N_Play_tick : List Str := ["self", "opening", "here", "numbers"]
theorem sc_Play_tick : FnScope N_Play_tick ["self", "opening"] (C8.fnScope s_Play_tick) := C8.fnScope_by (by decide +kernel)
def sp_tick (K : PySem.W.Frag) : Sp := fun vs H Q _ => ∃ (B : Hp) (p l wb : Addr) (v : V) (ws : List Int) (ps : List Pipe) (f0 : List Int) (R : List En) (op : Option (List Int)), vs = [.ref p, v] ∧ PlayAt K B H p l wb ws ps f0 R ∧ At K H (dOp op) v ∧ VOp ps.length op ∧ R.length < 1000 ∧
  ∀ a H', Kp [l] H H' → Tk H H' → PlayAt K B H' p l wb ws ps f0 (R ++ [enN ws ps (nowR f0 R) op]) → Is K H' a (numsN ws ps (nowR f0 R) op) → Q (.ref a) H'
theorem m_tick (T : Txt K mg) : C8.Met P w K mg base 6 (CP K) "tick" (sp_tick K) [] := by
  refine metD T.c_Play T.e_Play_tick sc_Play_tick (fun vs H Q E ⟨B, p, l, wb, v, ws, ps, f0, R, op, e, _⟩ => by rw [e]; rfl) fun f cdv A outer s H vs Q E hr h => ⟨_, (pss_cons (ps_set (i := 2) sc_Play_tick.nd rfl (Or.inl rfl) (C8.pe_mt0 (m_now T) hr (by decide) (pv 0)))
    (pss_cons (ps_set (i := 3) sc_Play_tick.nd rfl (Or.inl rfl) (pe_callTy call_tuple_of (by rfl) T.z_tuple (by decide +kernel) (pa_cons (C8.pe_c (c_running T) hr (by decide) (by rfl) (pa_cons (pe_fld (pv 0) rfl) (pa_cons (pv 2) (pa_cons (pv 1) pa_nil)))) pa_nil)))
    (pss_cons (ps_expr (pe_bm PySem.F.plainAttrs_list PySem.F.slot_list_append PySem.F.type_list_append mt_append (pe_fld (pv 0) rfl) (pa_cons (pe_tup (pa_cons (pv 1) (pa_cons (pv 3) (pa_cons (C8.pe_c (c_moved T) hr (by decide) (by rfl) (pa_cons (pe_fld (pv 0) rfl) (pa_cons (pv 2) (pa_cons (pv 3) pa_nil)))) pa_nil)))) pa_nil)))
    (pss_one (ps_ret (pv 3)))))), ?_⟩
  obtain ⟨B, p, l, wb, v, ws, ps, f0, R, op, rfl, hP, ho, hvo, hR, q⟩ := h
  obtain ⟨dx, b, xs, h1, h2, h3, h4⟩ := hP.ex
  have hl : xs.length = R.length := by rw [h4.len, List.length_map]
  have hng := now_good hP.vf hP.good
  refine ⟨_, rfl, p, dx, _, rfl, h1, rfl, B, p, l, wb, ws, ps, f0, R, rfl, hP, fun a ha => ?_⟩
  refine ⟨_, rfl, p, _, dx, _, _, rfl, h1, T.c_Play, T.n_Play_web, rfl, _, rfl, _, rfl, wb, a, v, ws, ps, nowR f0 R, op, rfl, hP.web.ext hP.ext, hP.vw, hP.vp, ha, hng, ho, hvo, fun c H1 e1 hc => ?_⟩
  refine ⟨c, _, rfl, .inl ⟨lstOf hc, fun t ht => ?_⟩⟩
  have eT : Ext H (upd H1 t (.tup ((numsN ws ps (nowR f0 R) op).map V.int))) := e1.trans (Ext.new ht)
  refine ⟨_, rfl, p, _, dx, _, _, rfl, eT _ _ h1, T.c_Play, T.n_Play_past, rfl, .inl ⟨rfl, xs, lstOf (eT _ _ h3)⟩, ?_⟩
  refine ⟨_, rfl, _, rfl, _, rfl, p, _, dx, _, _, rfl, eT _ _ h1, T.c_Play, T.n_Play_web, rfl, _, rfl, _, rfl, wb, a, t, ws, ps, nowR f0 R, _, rfl, (hP.web.ext hP.ext).ext eT, hP.vp, eT.sqT ha, hng.1, tupOf upd_same, nums_len _ _ _ _, hP.vw.2.1, fun m H2 e2 hm => ?_⟩
  have e3 := eT.trans e2
  refine ⟨(by show 3 ≤ sizeLine; decide), fun u hu => ?_⟩
  have e4 : Ext H (upd H2 u (.tup [v, .ref t, .ref m])) := e3.trans (Ext.new hu)
  have hl4 := e4 _ _ h3
  refine ⟨l, xs, _, rfl, rfl, hl4, (small_line (by omega)), _, rfl, ?_⟩
  have t5 : Tk (upd H2 u (.tup [v, .ref t, .ref m])) (upd (upd H2 u (.tup [v, .ref t, .ref m])) l (.lst (xs ++ [.ref u]))) := Tk.upd hl4 trivial
  have k5 : Kp [l] H (upd (upd H2 u (.tup [v, .ref t, .ref m])) l (.lst (xs ++ [.ref u]))) := e4.kp.trans (Kp.upd (by simp))
  have hpl : p ≠ l := fun z => by rw [z, h3] at h1; cases h1
  have ht2 : SqT K (upd H2 u (.tup [v, .ref t, .ref m])) t ((numsN ws ps (nowR f0 R) op).map V.int) := (e2.trans (Ext.new hu)).sqT (tupOf upd_same)
  refine q t _ k5 (e4.tk.trans t5) ⟨⟨dx, b, xs ++ [.ref u], k5 _ _ h1 (by simpa using hpl), (e4.tk.trans t5).sqT h2, upd_same, ?_⟩, hP.ext.under k5 (fun s hs => by rw [List.mem_singleton.mp hs]; exact hP.bl), hP.web, hP.bp, hP.bl, hP.vw, hP.vp, hP.vf, fun e he => ?_⟩ (t5.sqT ht2)
  · rw [List.map_append]
    refine Ats.snoc (h4.tk (e4.tk.trans t5) (pures_of pure_en R)) ?_
    exact ⟨u, _, rfl, t5.sqT (tupOf upd_same), _, _, rfl, (ho.tk (e4.tk.trans t5) (pure_op op)), _, _, rfl, ints_at (t5.sqT ht2), _, _, rfl, ints_at (t5.sqT ((Ext.new hu).sqT hm)), rfl⟩
  · rcases List.mem_append.mp he with z | z
    · exact hP.good e z
    · rw [List.mem_singleton.mp z]
      exact vfil_moved _ _ _
abbrev s_Play_log : Stmt := inClass (top 54) 3
abbrev N_Play_log : List Str := ["self", "opening", "numbers", "later"]
theorem sc_Play_log : FnScope N_Play_log ["self"] (C8.fnScope s_Play_log) := C8.fnScope_by (by decide +kernel)
def sp_log (K : PySem.W.Frag) : Sp := fun vs H Q _ => ∃ (B : Hp) (p l wb : Addr) (ws : List Int) (ps : List Pipe) (f0 : List Int) (R : List En), vs = [.ref p] ∧ PlayAt K B H p l wb ws ps f0 R ∧ R.length < 1000 ∧ ∀ a xs H', Ext H H' → H' a = some (.lst xs) → Ats K H' (R.map fun e => dOp e.op) xs → Q (.ref a) H'
theorem m_log (T : Txt K mg) : C8.Met P w K mg base 1 (CP K) "log" (sp_log K) [] := by
  refine metD T.c_Play T.e_Play_log sc_Play_log (fun vs H Q E ⟨B, p, l, wb, ws, ps, f0, R, e, _⟩ => by rw [e]; rfl) fun f cdv A outer s H vs Q E hr h => ⟨_, (pss_one (ps_ret (pe_lc (own := [("opening", 1), ("numbers", 2), ("later", 3)]) (g := (gTup K 3 (gCons (gName 1) (gCons (gName 2) (gCons (gName 3) gNil))))) rfl sc_Play_log.nd (pi_list (pe_fld (pv 0) rfl)) (blkOk_by (own := [("opening", 1), ("numbers", 2), ("later", 3)]) (N := N_Play_log) (sc := C8.fnScope s_Play_log) (by decide +kernel)) (fun _ _ _ _ _ => (pg_tup (by rfl) (pgs_cons (pg_name (i := 1) sc_Play_log.nd rfl (Or.inl rfl)) (pgs_cons (pg_name (i := 2) sc_Play_log.nd rfl (Or.inl rfl)) (pgs_cons (pg_name (i := 3) sc_Play_log.nd rfl (Or.inl rfl)) pgs_nil))))) (fun _ _ _ _ _ => pts_nil) (fun _ _ _ _ _ => (pv 1))))), ?_⟩
  obtain ⟨B, p, l, wb, ws, ps, f0, R, rfl, hP, hR, q⟩ := h
  obtain ⟨dx, b, xs, h1, h2, h3, h4⟩ := hP.ex
  have hl : xs.length = R.length := by rw [h4.len, List.length_map]
  refine ⟨_, rfl, p, _, dx, _, _, rfl, h1, T.c_Play, T.n_Play_past, rfl, l, rfl, ⟨_, lstOf h3⟩, fun D hD => ?_⟩
  refine lcX (walk_list (xs := xs)) hD (fun i acc H => Ats K H ((R.take i).map fun e => dOp e.op) acc) rfl (fun H' e => e.sqL (lstOf h3)) (fun i x H1 H2 acc hi e g1 g2 g3 y => ?_) fun H1 acc e g1 g2 g3 => ?_
  · obtain ⟨rfl, y⟩ := y
    obtain ⟨d, hd, hat⟩ := (h4.ext e).get y
    rw [List.getElem?_map] at hd
    cases er : R[i]? with
    | none => rw [er] at hd; cases hd
    | some n =>
      rw [er] at hd
      obtain rfl : dEn n = d := Option.some.inj hd
      obtain ⟨t, u1, a2, a3, rfl, ht, hu, ha2, ha3⟩ := at_en hat
      refine ⟨t, _, rfl, ht, rfl, _, _, rfl, _, _, rfl, _, _, rfl, rfl, rfl, _, rfl, ?_⟩
      refine lcFin hD g1 g2 (small_line (by omega)) e ?_
      rw [List.take_add_one, er, List.map_append]
      have t3 : Tk H2 (upd H2 D (.lst (acc ++ [u1]))) := Tk.upd g1 trivial
      exact Ats.snoc (g3.tk t3 (pures_of (f := fun e : En => dOp e.op) (fun e => pure_op e.op) _)) (hu.tk t3 (pure_op _))
  · refine q D acc _ e g1 ?_
    rw [hl, List.take_length] at g3
    exact g3
/-! Play.ran: a comprehension within a comprehension -/
def lcScope : Expr → Scope
  | .ListComp _ _ sc _ => sc
  | _ => ⟨.function, [], false, false, []⟩
def argOf : Expr → Expr
  | .Call _ (e :: _) _ _ => e
  | e => e
def retOf : Stmt → Expr
  | .Return (some e) _ => e
  | _ => .Constant .none 0 ⟨0, 0, 0, 0⟩
def ranScope : Scope := lcScope (argOf (retOf ((C8.fnBody (inClass (top 54) 4)).getD 0 (.Pass ⟨0, 0, 0, 0⟩))))
abbrev s_Play_ran : Stmt := inClass (top 54) 4
abbrev N_Play_ran : List Str := ["self", "opening", "numbers", "later", "number"]
theorem sc_Play_ran : FnScope N_Play_ran ["self"] (C8.fnScope s_Play_ran) := C8.fnScope_by (by decide +kernel)
theorem cr_sumK {X : Cx} {K : PySem.W.Frag} (e : X.K = K) (hc : X.calm = true) : CallR X (.builtin "sum") (rSum K) := by
  rw [← e]
  exact cr_sum hc
theorem pi_tupK {X : Cx} {K : PySem.W.Frag} {tg l : Expr} {tl : TE} (e : X.K = K) (hl : PE X l tl) : PI X tg l (iTup K tl) := by
  rw [← e]
  exact pi_tup hl
def sp_ran (K : PySem.W.Frag) : Sp := fun vs H Q _ => ∃ (B : Hp) (p l wb : Addr) (ws : List Int) (ps : List Pipe) (f0 : List Int) (R : List En), vs = [.ref p] ∧ PlayAt K B H p l wb ws ps f0 R ∧ R.length < 1000 ∧ (∀ e ∈ R, e.nums.length < 1000) ∧ ∀ H', Ext H H' → Q (.int (ranN R)) H'
theorem m_ran (T : Txt K mg) : C8.Met P w K mg base 1 (CP K) "ran" (sp_ran K) [] := by
  refine metD T.c_Play T.e_Play_ran sc_Play_ran (fun vs H Q E ⟨B, p, l, wb, ws, ps, f0, R, e, _⟩ => by rw [e]; rfl) fun f cdv A outer s H vs Q E hr h => ⟨_, (pss_one (ps_ret (pe_callB (cr_sum rfl) (by rfl) T.z_sum (by decide +kernel) (pa_cons (pe_lc (own := [("opening", 1), ("numbers", 2), ("later", 3)]) (g := (gTup K 3 (gCons (gName 1) (gCons (gName 2) (gCons (gName 3) gNil))))) rfl sc_Play_ran.nd (pi_list (pe_fld (pv 0) rfl)) (blkOk_by (own := [("opening", 1), ("numbers", 2), ("later", 3)]) (N := N_Play_ran) (sc := C8.fnScope s_Play_ran) (by decide +kernel)) (fun _ _ _ _ _ => (pg_tup (by rfl) (pgs_cons (pg_name (i := 1) sc_Play_ran.nd rfl (Or.inl rfl)) (pgs_cons (pg_name (i := 2) sc_Play_ran.nd rfl (Or.inl rfl)) (pgs_cons (pg_name (i := 3) sc_Play_ran.nd rfl (Or.inl rfl)) pgs_nil))))) (fun _ _ _ _ _ => pts_nil) (fun _ _ _ _ _ => (pe_callB (cr_sumK (K := K) rfl rfl) (by rfl) T.z_sum (by decide +kernel) (pa_cons (pe_lc (own := [("number", 4)]) (g := (gName 4)) rfl sc_Play_ran.nd (pi_tupK (K := K) rfl (pv 2)) (blkOk_by (own := [("number", 4)]) (N := N_Play_ran) (sc := ranScope) (by decide +kernel)) (fun _ _ _ _ _ => (pg_name (i := 4) sc_Play_ran.nd rfl (Or.inl rfl))) (fun _ _ _ _ _ => pts_nil) (fun _ _ _ _ _ => (pe_callB call_abs (by rfl) T.z_abs (by decide +kernel) (pa_cons (pv 4) pa_nil)))) pa_nil)))) pa_nil)))), ?_⟩
  obtain ⟨B, p, l, wb, ws, ps, f0, R, rfl, hP, hR, hn, q⟩ := h
  obtain ⟨dx, b, xs, h1, h2, h3, h4⟩ := hP.ex
  have hl : xs.length = R.length := by rw [h4.len, List.length_map]
  refine ⟨_, rfl, p, _, dx, _, _, rfl, h1, T.c_Play, T.n_Play_past, rfl, l, rfl, ⟨_, lstOf h3⟩, fun D hD => ?_⟩
  refine lcX (walk_list (xs := xs)) hD (RFlat fun i => .int (amountN (R.getD i ⟨none, [], []⟩).nums)) rfl (fun H' e => e.sqL (lstOf h3)) (fun i x H1 H2 acc hi e g1 g2 g3 y => ?_) fun H1 acc e g1 g2 g3 => ?_
  · obtain ⟨rfl, y⟩ := y
    obtain ⟨d, hd, hat⟩ := (h4.ext e).get y
    rw [List.getElem?_map] at hd
    cases er : R[i]? with
    | none => rw [er] at hd; cases hd
    | some n =>
      rw [er] at hd
      obtain rfl : dEn n = d := Option.some.inj hd
      obtain ⟨t, u1, a2, a3, rfl, ht, hu, ha2, ha3⟩ := at_en hat
      have hnl := hn n (List.mem_of_getElem? er)
      refine ⟨t, _, rfl, ht, rfl, _, _, rfl, _, _, rfl, _, _, rfl, rfl, rfl, _, rfl, a2, rfl, ⟨_, ha2⟩, fun D2 hD2 => ?_⟩
      refine lcX (walk_tup (xs := n.nums.map V.int)) hD2 (RFlat fun j => .int (iabs (wd n.nums j))) rfl (fun H' e' => e'.sqT ha2) (fun j x H3 H4 acc2 hj e' q1 q2 q3 y2 => ?_) fun H3 acc2 e' q1 q2 q3 => ?_
      · obtain ⟨rfl, y2⟩ := y2
        have hj' : j < n.nums.length := by rw [List.length_map] at hj; exact hj
        rw [wd_at hj'] at y2
        obtain rfl := Option.some.inj y2
        exact ⟨rfl, _, rfl, _, rfl, lcFin hD2 q1 q2 (small_line (by omega)) e' (rflat q3 rfl)⟩
      · refine ⟨D2, n.nums.map iabs, rfl, lstOf ?_, ?_⟩
        · rw [q1, q3, List.length_map]
          congr 2
          rw [List.map_map]
          exact range_get n.nums _ _ fun j x hx => by
            show V.int (iabs (wd n.nums j)) = V.int (iabs x)
            unfold wd
            rw [List.getD_eq_getElem?_getD, hx] <;> rfl
        · refine lcFin hD (e' _ _ g1) g2 (small_line (by omega)) (e.trans e') (rflat g3 ?_)
          rw [List.getD_eq_getElem?_getD, er] <;> rfl
  · refine ⟨D, R.map fun e : En => amountN e.nums, rfl, lstOf ?_, q _ e⟩
    rw [g1, g3, hl]
    congr 2
    rw [List.map_map]
    exact range_get R _ _ fun i x hx => by rw [List.getD_eq_getElem?_getD, hx] <;> rfl
abbrev s_Play_back : Stmt := inClass (top 54) 5
abbrev N_Play_back : List Str := ["self", "many"]
theorem sc_Play_back : FnScope N_Play_back ["self", "many"] (C8.fnScope s_Play_back) := C8.fnScope_by (by decide +kernel)
def sp_back (K : PySem.W.Frag) : Sp := fun vs H Q E => ∃ (B : Hp) (p l wb : Addr) (m : Nat) (ws : List Int) (ps : List Pipe) (f0 : List Int) (R : List En), vs = [.ref p, .int (m : Int)] ∧ PlayAt K B H p l wb ws ps f0 R ∧ 1 ≤ m ∧
  (m ≤ R.length → ∀ l' H', Kp [p] H H' → Tk H H' → H l' = none → PlayAt K B H' p l' wb ws ps f0 (R.take (R.length - m)) → Q .non H') ∧ (R.length < m → E (.ref (He.ga K "NoNumber")) none H)
theorem m_back (U : TxtE P K mg) : MetX P w K mg base 4 (CP K) "back" (sp_back K) := by
  have T := U.t
  refine metX T.c_Play T.e_Play_back sc_Play_back (fun vs H Q E ⟨B, p, l, wb, m, ws, ps, f0, R, e, _⟩ => by rw [e]; rfl) fun f cdv A outer s H vs Q E hr h => ⟨_, (pss_cons (ps_expr (pe_cX (c_check_number U) hr (by decide) (takes_of rfl rfl rfl rfl) (by rfl) (pa_cons (pv 1) (pa_cons pe_int (pa_cons (pe_callB call_len_seq (by rfl) T.z_len (by decide +kernel) (pa_cons (pe_fld (pv 0) rfl) pa_nil)) pa_nil)))))
    (pss_one (ps_fld (pv 0) (pe_slice sl_list (pe_fld (pv 0) rfl) po_none (po_some (pe_un un_neg (pv 1)))) rfl))), ?_⟩
  obtain ⟨B, p, l, wb, m, ws, ps, f0, R, rfl, hP, hm, q1, q2⟩ := h
  obtain ⟨dx, b, xs, h1, h2, h3, h4⟩ := hP.ex
  have hl : xs.length = R.length := by rw [h4.len, List.length_map]
  refine ⟨_, rfl, _, rfl, p, _, dx, _, _, rfl, h1, T.c_Play, T.n_Play_past, rfl, l, xs, rfl, .inl (lstOf h3), _, _, _, rfl, fun hc => ?_, fun hc => q2 (by omega)⟩
  have hm2 : m ≤ R.length := by omega
  refine ⟨_, rfl, p, _, dx, _, _, rfl, h1, T.c_Play, T.n_Play_past, rfl, _, rfl, _, rfl, _, rfl, l, xs, rfl, lstOf h3, fun l' hl' => ?_⟩
  have ec : cutV xs none (some (-(m : Int))) = xs.take (R.length - m) := by
    have e0 : HT.sIx xs.length xs.length (some (-(m : Int))) = R.length - m := by
      show (if -(m : Int) < 0 then (-(m : Int) + (xs.length : Int)).toNat else min (-(m : Int)).toNat xs.length) = _
      rw [if_pos (by omega)]
      omega
    unfold cutV
    rw [e0, HT.sIx_none, List.drop_zero, Nat.sub_zero]
  rw [ec]
  have e1 : Ext H (upd H l' (.lst (xs.take (R.length - m)))) := Ext.new hl'
  refine ⟨_, rfl, p, _, dx, _, rfl, e1 _ _ h1, T.c_Play, T.n_Play_past, (by show 3 < 1000; decide), ?_⟩
  have t1 : Tk H (upd (upd H l' (.lst (xs.take (R.length - m)))) p (.ins (CP K) dx (plF wb b l'))) := e1.tk.trans (Tk.upd (e1 _ _ h1) trivial)
  have k1 : Kp [p] H (upd (upd H l' (.lst (xs.take (R.length - m)))) p (.ins (CP K) dx (plF wb b l'))) := e1.kp.trans (Kp.upd (by simp))
  refine q1 hm2 l' _ k1 t1 hl' ⟨⟨dx, b, xs.take (R.length - m), upd_same, t1.sqT h2, ?_, ?_⟩, hP.ext.under k1 (fun s hs => by rw [List.mem_singleton.mp hs]; exact hP.bp), hP.web, hP.bp, hP.ext.out hl', hP.vw, hP.vp, hP.vf, fun e he => hP.good e (List.mem_of_mem_take he)⟩
  · rw [upd_ne (ne_of_none h1 hl').symm]
    exact upd_same
  · refine ats_of (by rw [List.length_take, List.length_map, List.length_take, hl]) fun i d v e1 e2 => ?_
    rw [List.getElem?_map, List.getElem?_take] at e1
    rw [List.getElem?_take] at e2
    split at e1
    · rename_i hi
      rw [if_pos hi] at e2
      obtain ⟨d', g1, g2⟩ := (h4.tk t1 (pures_of pure_en R)).get e2
      rw [List.getElem?_map] at g1
      rw [e1] at g1
      cases g1
      exact g2
    · cases e1
end
/-! ### try .. finally -/
def tFinK (tb : WX → TS) (tf tfs : TS) (Wout : WX) : TS := fun D σ H => tb (wFin tfs Wout) { nx := fun σ1 H1 => tf D σ1 H1, rt := fun _ _ => False } σ H
section
variable {X : Cx} {body : List Stmt} {f₀ : Stmt} {fs : List Stmt} {pos : Pos} {tb : WX → TS} {tf tfs : TS} {Wout : WX}
theorem ps_finK (hs : X.stack = X.env :: X.outer) (hf : X.env.frame = some X.env.locals) (hex : X.ex = []) (tk : Takes X Wout)
    (hb : ∀ (W : WX) (pn : List (Addr × Obj)) (xe : Value → Shared → Prop), Takes (X.tr pn xe) W → PassesOwn (model X.prog X.w) X.A X.env xe → PSs (X.tr pn xe) body (tb W))
    (hfin : PSs X.nox (f₀ :: fs) tf) (hsu : ∀ (a : Addr) (pn : List (Addr × Obj)), PSs (X.suite a pn) (f₀ :: fs) tfs) : PS X (.Try body [] [] (f₀ :: fs) pos) (tFinK tb tf tfs Wout) := by
  refine ⟨fun pins s0 σ H D I h => ?_⟩
  have hok := I.ok
  refine wpAny_Try_finally ?_
  let G : Value → Shared → Prop := FinallyRaised X.prog X.w X.A X.xe X.env (f₀ :: fs) (SP X pins D)
  have run := (hb (wFin tfs Wout) (X.pn ++ pins) (fun x s₁ => wpAny (model X.prog X.w) X.A (noteFrame x X.env) (fun _ s₂ => G x s₂) G s₁) (fun u s' xx => fin_exc hs hf hex hok tk hsu xx) PassesOwn.looking).run [] s0 σ H { nx := fun σ1 H1 => tf D σ1 H1, rt := fun _ _ => False } (I.toTry _) h
  refine wpAny_mono run (fun g s1 z => ?_) (fun x s1 hx => hx)
  cases g with
  | next =>
    obtain ⟨σ1, H1, J1, q1⟩ := z
    refine wpAny_execs_nil (wpAny_mono (hfin.run pins s1 σ1 H1 D ((J1.ofTry hok).wish _) q1) (fun g2 s2 q2 => ?_) fun _ _ e => False.elim e)
    have q3 : SP X pins D g2 s2 := q2.unwish
    cases g2 <;> exact q3
  | ret u =>
    obtain ⟨_, _, _, _, _, q⟩ := z
    exact False.elim q
  | brk =>
    obtain ⟨_, _, _, q⟩ := z
    exact False.elim q
  | cont =>
    obtain ⟨_, _, _, q⟩ := z
    exact False.elim q
end
/-! ### a function that a name holds, told by what its call does -/
/-- the call of the function at f with these arguments, from H: Q of its value, E of its errors -/
def Runs (P : Program) (w : World) (K : PySem.W.Frag) (mg : Str → Option Value) (base : Heap) (k : Nat) (f : Addr) (vs : List V) (H : Hp) (Q : VK) (E : XK) : Prop :=
  ∀ (A : Around) (outer : List Env) (s : Shared) (us : List Value), Room k A → Env0 P w K mg base A outer s H → Vals vs us → codeAny (model P w) A (.call (.ref f) ⟨us, []⟩) (CR (L2.CX P w) outer P w H s Q E) s
theorem cr_mono {P : Program} {w : World} {outer : List Env} {H : Hp} {s : Shared} {Q Q' : VK} {E E' : XK} {r : Result} {s' : Shared} (h : CR (L2.CX P w) outer P w H s Q E r s') (hq : ∀ v H', Q v H' → Q' v H') (he : ∀ c d H', E c d H' → E' c d H') : CR (L2.CX P w) outer P w H s Q' E' r s' := by
  cases r with
  | error e =>
    obtain ⟨a, B, H', cls, d, h1, h2, h3, h4, h5, h6, h7, h8⟩ := h
    exact ⟨a, B, H', cls, d, h1, h2, h3, h4, h5, h6, h7, he _ _ _ h8⟩
  | ok fl =>
    cases fl with
    | ret u =>
      obtain ⟨v, H', h1, h2, h3, h4, h5, h6⟩ := h
      exact ⟨v, H', h1, h2, h3, h4, h5, hq _ _ h6⟩
    | next => exact False.elim h
    | brk => exact False.elim h
    | cont => exact False.elim h
theorem Runs.mono {P : Program} {w : World} {K : PySem.W.Frag} {mg : Str → Option Value} {base : Heap} {k : Nat} {f : Addr} {vs : List V} {H : Hp} {Q Q' : VK} {E E' : XK} (h : Runs P w K mg base k f vs H Q E) (hq : ∀ v H', Q v H' → Q' v H') (he : ∀ c d H', E c d H' → E' c d H') : Runs P w K mg base k f vs H Q' E' :=
  fun A outer s us hr e0 r => codeAny_mono (h A outer s us hr e0 r) fun _ _ z => cr_mono z hq he
def tRuns (P : Program) (w : World) (K : PySem.W.Frag) (mg : Str → Option Value) (base : Heap) (k : Nat) (i : Nat) (W : WX) (t : TA) : TE := fun σ H Q => ∃ f F, σ[i]? = some (some (.ref f)) ∧ H f = some (NdefX.FnO f F) ∧ t σ H fun vs H1 => H1 f = some (NdefX.FnO f F) ∧ Runs P w K mg base k f vs H1 Q (WE W σ)
section
variable {X : Cx} {i j k : Nat} {x : Str} {p pos : Pos} {e : Expr} {es : List Expr} {t : TA} {W : WX}
theorem pe_runs (hr : Room j X.A) (hk : k ≤ j) (tk : Takes X W) (hN : X.N[i]? = some x) (hv : Vis X.env.scope x) (ha : PA X (e :: es) t) (hd : (x == ("__debug__" : Str)) = false := by decide) (hcd : (x == ("__classdict__" : Str)) = false := by decide)
    (he : starEach (e :: es) X.env = (false, eval e X.env) :: starEach es X.env := by rfl) (hpl : (backTo pos (starEach es X.env)).any (·.1) = false := by rfl) :
    PE X (.Call (.Name x p) (e :: es) [] pos) (tRuns X.prog X.w X.K X.mg X.base k i W t) := by
  refine ⟨fun pins s σ H Q I h => ?_⟩
  obtain ⟨f, F, hs, hf, ht⟩ := h
  refine wpAny_Call_Name_kw (thn ((pe_var (pos := p) hN hv hd hcd).run pins s σ H (fun v H1 => v = .ref f ∧ H1 = H) I ⟨.ref f, hs, rfl, rfl⟩) fun u s1 ⟨v, H1, I1, r1, q1⟩ => ?_)
  obtain ⟨ev, eH⟩ := q1
  subst ev
  rw [eH] at I1
  obtain rfl : u = Value.ref f := r1
  refine PySem.W.callWith_F (first := []) (NdefX.fnAt_of I1 hf) (thn (ha.run pos pins s1 σ H _ I1 ht) fun us s2 ⟨vs, H2, I2, r, h1, q⟩ => ⟨NdefX.fnAt_of I2 h1, ?_⟩) he hpl
  refine wpAny_call (codeAny_mono (q X.A X.stack s2 us (hr.mono hk) I2.env0 r) fun r s' hq => ?_)
  cases r with
  | error er => exact passAt tk σ pins H2 s2 er s' I2 hq
  | ok fl =>
    cases fl with
    | ret u => exact I2.after hq
    | next => exact False.elim hq
    | brk => exact False.elim hq
    | cont => exact False.elim hq
end
section
variable {P : Program} {w : World} {K : PySem.W.Frag} {mg : Str → Option Value} {base : Heap}
abbrev s_Play_trying : Stmt := inClass (top 54) 7
abbrev N_Play_trying : List Str := ["self", "action", "kept", "found"]
theorem sc_Play_trying : FnScope N_Play_trying ["self", "action"] (C8.fnScope s_Play_trying) := C8.fnScope_by (by decide +kernel)
/-- the play gets back its list k -/
def setPast (K : PySem.W.Frag) (p k : Addr) (H : Hp) (Z : Hp → Prop) : Prop := ∃ dx wb b l, H p = some (.ins (CP K) dx (plF wb b l)) ∧ Z (upd H p (.ins (CP K) dx (plF wb b k)))
def sp_trying (P : Program) (w : World) (K : PySem.W.Frag) (mg : Str → Option Value) (base : Heap) (j : Nat) : Sp := fun vs H Q E => ∃ (p l wb b dx f : Addr) (F : NdefX.NF) (xs : List V), vs = [.ref p, .ref f] ∧ H p = some (.ins (CP K) dx (plF wb b l)) ∧ H l = some (.lst xs) ∧ H f = some (NdefX.FnO f F) ∧
  ∀ k, H k = none → Runs P w K mg base j f [.ref p] (upd H k (.lst xs)) (fun v H2 => setPast K p k H2 (Q v)) (fun cls d H2 => setPast K p k H2 (E cls d))
theorem m_trying (T : Txt K mg) (j : Nat) : MetX P w K mg base (j + 1) (CP K) "trying" (sp_trying P w K mg base j) := by
  refine metX T.c_Play T.e_Play_trying sc_Play_trying (fun vs H Q E ⟨p, l, wb, b, dx, f, F, xs, e, _⟩ => by rw [e]; rfl) fun f cdv A outer s H vs Q E hr h => ⟨_,
    pss_cons (ps_set (i := 2) sc_Play_trying.nd rfl (Or.inl rfl) (pe_callTy call_list_of (by rfl) T.z_list (by decide +kernel) (pa_cons (pe_fld (pv 0) rfl) pa_nil)))
      (pss_cons (ps_finK (tb := fun W => tAsg (tRuns P w K mg base j 1 W (tCons (tVar 0) tNil)) (gName 3)) (tf := sFld K (tVar 0) (tVar 2) "past") (tfs := sFld K (tVar 0) (tVar 2) "past") rfl rfl rfl (takes_of rfl rfl rfl rfl) (fun W pn xe tk _ => pss_one (ps_set (i := 3) sc_Play_trying.nd rfl (Or.inl rfl) (pe_runs (i := 1) hr (Nat.le_refl _) tk rfl (Or.inl rfl) (pa_cons (pv 0) pa_nil))))
        (pss_one (ps_fld (pv 0) (pv 2) rfl)) (fun a pn => pss_one (ps_fld (pv 0) (pv 2) rfl)))
      (pss_one (ps_ret (pv 3)))), ?_⟩
  obtain ⟨p, l, wb, b, dx, fa, F, xs, rfl, hp, hl, hf, q⟩ := h
  refine ⟨_, rfl, p, _, dx, _, _, rfl, hp, T.c_Play, T.n_Play_past, rfl, l, xs, rfl, .inl (lstOf hl), fun k hk => ?_⟩
  have hf1 : upd H k (.lst xs) fa = some (NdefX.FnO fa F) := by
    rw [upd_ne (ne_of_none hf hk)]
    exact hf
  refine ⟨fa, F, rfl, hf1, _, rfl, hf1, ?_⟩
  refine (q k hk).mono (fun v H2 ⟨dx2, wb2, b2, l2, h1, h2⟩ => ?_) (fun cls d H2 ⟨dx2, wb2, b2, l2, h1, h2⟩ => ?_)
  · exact ⟨_, rfl, _, rfl, p, _, dx2, _, rfl, h1, T.c_Play, T.n_Play_past, (by show 3 < 1000; decide), _, rfl, h2⟩
  · exact ⟨_, rfl, _, rfl, p, _, dx2, _, rfl, h1, T.c_Play, T.n_Play_past, (by show 3 < 1000; decide), h2⟩
end
end K14
end
section
/-! sorted of pairs (int, tuple of two ints), where equal ints go with equal tuples. -/
namespace K14
namespace SrtK
open PySem PySem.W PySem.Spec PyProof.Rows Srt SrtO
/-- a pair of an int and a pair of ints -/
def IsKey (h : Heap) (v : Value) (k : Int × (Int × Int)) : Prop := ∃ a o t n u, v = .ref a ∧ h.get? a = some o ∧ o.cls = .type "tuple" ∧ o.data = .seq #[.int k.1 t, .ref u] n ∧ ∃ t1 t2, h.IsTuple u #[.int k.2.1 t1, .int k.2.2 t2]
theorem IsKey.keeps {h h' : Heap} {v : Value} {k : Int × (Int × Int)} (p : IsKey h v k) (g : ∀ b o, h.get? b = some o → o.cls = .type "tuple" → h'.get? b = some o) : IsKey h' v k := by
  obtain ⟨a, o, t, n, u, e, ho, hc, hd, t1, t2, ou, q1, q2, q3⟩ := p
  exact ⟨a, o, t, n, u, e, g _ _ ho hc, hc, hd, t1, t2, ou, g _ _ q1 q2, q2, q3⟩
theorem swo_key (k : Value → Int) : Swo fun v u => decide (k v < k u) :=
  ⟨fun x y h => decide_eq_false (by have := of_decide_eq_true h; omega), fun x y z h1 h2 => decide_eq_false (by have a := of_decide_eq_false h1; have b := of_decide_eq_false h2; omega)⟩
section
variable {prog : Program} {w : World} {A : Around} {s : Shared}
theorem tup_eq {u v : Addr} {x y : Int} {t1 t2 t3 t4 : Tok} (h1 : s.heap.IsTuple u #[.int x t1, .int y t2]) (h2 : s.heap.IsTuple v #[.int x t3, .int y t4]) (hu : A.units < cLine) : SeqAt.EqAt A s (.ref u) (.ref v) true := by
  by_cases e : u = v
  · subst e
    exact SeqAt.EqAt.same _
  · refine SeqAt.EqAt.of_refs e ?_
    have := SeqAt.RcAt.tuples (A := A) (e := fun _ => true) h1 h2 hu fun j a b => by
      match j, a with
      | 0, _ =>
        have z := SeqAt.EqAt.int_int (A := A.in1) (s := s) x t1 x t3
        rw [beq_self_eq_true] at z
        exact z
      | 1, _ =>
        have z := SeqAt.EqAt.int_int (A := A.in1) (s := s) y t2 y t4
        rw [beq_self_eq_true] at z
        exact z
    exact this
theorem key_cmp {vs : List Value} {k : Value → Int × (Int × Int)} (hu : A.units < cLine) (hp : ∀ v ∈ vs, IsKey s.heap v (k v)) (hk : ∀ v ∈ vs, ∀ u ∈ vs, (k v).1 = (k u).1 → (k v).2 = (k u).2) : Cmp prog w A s (tuples' true) (fun p => p.1 ∈ vs) (lt2 fun v u => decide ((k v).1 < (k u).1)) := by
  intro p q hm hm'
  have h1 := hp _ hm
  have h2 := hp _ hm'
  have h3 := hk _ hm _ hm'
  show wpAny (model prog w) A (keyLt' (tuples' true) p.1 q.1) (fun r s' => s' = s ∧ r = decide ((k p.1).1 < (k q.1).1)) (fun _ _ => False) s
  obtain ⟨a, o, t, n, u, e, ho, hc, hd, t1, t2, hT⟩ := h1
  obtain ⟨a', o', t', n', u', e', ho', hc', hd', t1', t2', hT'⟩ := h2
  rw [e, e']
  rw [e, e'] at h3
  rw [e] at hd hT
  rw [e'] at hd' hT'
  refine PySem.W.kat_lt ho hd ho' hd' ?_
  show PySem.W.KatLex prog w A true (decide (2 < 2)) _ [(.int (k (.ref a)).1 t, .int (k (.ref a')).1 t'), (.ref u, .ref u')] 0 s
  refine PySem.W.kat_cons (SeqAt.EqAt.int_int _ t _ t' prog w _ _ ?_)
  refine PySem.W.kat_go (fun e1 => ?_) (fun e1 => ?_)
  · have ex : (k (.ref a)).1 = (k (.ref a')).1 := by simpa using e1
    have ey := h3 ex
    rw [← ey] at hT'
    refine PySem.W.kat_yes (PySem.W.kat_cons (tup_eq hT hT' hu prog w _ _ ?_))
    refine PySem.W.kat_yes (PySem.W.kat_nil ⟨rfl, ?_⟩)
    rw [ex]
    exact (decide_eq_false (Int.lt_irrefl _)).symm
  · exact PySem.W.kat_no (oneLt_int ⟨rfl, rfl⟩)
theorem firsts_key {h : Heap} {k : Value → Int × (Int × Int)} : ∀ {vs : List Value}, (∀ v ∈ vs, IsKey h v (k v)) → ∃ fs : List Value, PySem.W.KatTups h vs fs ∧ fs.length = vs.length ∧ ∀ f ∈ fs, ∃ x t, f = Value.int x t
  | [], _ => ⟨[], PySem.W.KatTups.nil, rfl, fun _ hm => by simp at hm⟩
  | v :: vs, hp => by
    obtain ⟨fs, h1, h2, h3⟩ := firsts_key (vs := vs) fun v' hm => hp v' (List.mem_cons_of_mem _ hm)
    obtain ⟨a, o, t, n, u, e, ho, hc, hd, _⟩ := hp v (List.mem_cons_self ..)
    have hd : o.data = .seq #[.int (k v).1 t, .ref u] n := hd
    subst e
    refine ⟨.int (k (.ref a)).1 t :: fs, PySem.W.KatTups.cons ho hc hd rfl h1, (by rw [List.length_cons, List.length_cons, h2]), fun f hm => ?_⟩
    rcases List.mem_cons.mp hm with rfl | hm
    · exact ⟨_, t, rfl⟩
    · exact h3 f hm
theorem key_sortable {a : Addr} {vs : List Value} {k : Value → Int × (Int × Int)} (h0 : 0 < vs.length) (hu : A.units < cLine) (hp : ∀ v ∈ vs, IsKey s.heap v (k v)) (hk : ∀ v ∈ vs, ∀ u ∈ vs, (k v).1 = (k u).1 → (k v).2 = (k u).2) (ha : ∀ o, s.heap.get? a = some o → o.cls ≠ .type "tuple") :
    SortableO prog w A s a vs fun v u => decide ((k v).1 < (k u).1) := by
  intro h' keep
  have hp' : ∀ v ∈ vs, IsKey h' v (k v) := fun v hm => (hp v hm).keeps fun b o e c => keep b o (fun z => ha o (by rw [← z]; exact e) c) e
  obtain ⟨fs, h1, h2, h3⟩ := firsts_key hp'
  refine ⟨tuples' true, fun Q E hq => ?_, key_cmp hu hp' hk⟩
  refine PySem.W.kat_kind (T := .type "int") h1 (by omega) (fun f hm => ?_) (by rfl) ?_
  · obtain ⟨x, t, rfl⟩ := h3 f hm
    exact PySem.W.Looks.now
  · have e : (Value.type "int" != Value.type "tuple") = true := by decide +kernel
    rw [e]
    exact hq
end
end SrtK
open PySem PySem.Spec PyProof.Rows L2
def rSortedK (K : PySem.W.Frag) : List V → Hp → VK → Prop := fun vs H Q => ∃ (a : Addr) (xs : List V) (k : V → Int × (Int × Int)), vs = [V.ref a] ∧ SqL K H a xs ∧ (∀ x ∈ xs, ∃ t u, x = V.ref t ∧ H t = some (.tup [.int (k x).1, .ref u]) ∧ H u = some (.tup [.int (k x).2.1, .int (k x).2.2])) ∧
  (∀ x ∈ xs, ∀ y ∈ xs, (k x).1 = (k y).1 → (k x).2 = (k y).2) ∧ ∀ ys p, (ys.Pairwise fun x y => ¬ (k y).1 < (k x).1) → ys.Perm xs → H p = none → Q (.ref p) (upd H p (.lst ys))
section
variable {X : Cx}
theorem cr_sortedK (hu : X.A.units + 64 < cLine) : CallR X (.builtin "sorted") (rSortedK X.K) := by
  intro pins s σ H vs us Q I r h
  obtain ⟨a, xs, k, rfl, hs, hx, hk, q⟩ := h
  obtain ⟨its, rv, hl, hz⟩ := I.list hs
  obtain ⟨u, rfl, ru⟩ := vals1 r
  obtain rfl : u = Value.ref a := ru
  obtain ⟨e1, e2⟩ := refs_back rv fun x m => by
    obtain ⟨t, _, e, _⟩ := hx x m
    exact ⟨t, e⟩
  have hmem : ∀ v ∈ its, backV v ∈ xs := fun v hv => by rw [e1]; exact List.mem_map.mpr ⟨v, hv, rfl⟩
  have hkey : ∀ v ∈ its, SrtK.IsKey s.heap v (k (backV v)) := fun v hv => by
    obtain ⟨t, rfl⟩ := e2 v hv
    obtain ⟨t', u, e, ht, hu⟩ := hx _ (hmem _ hv)
    cases e
    obtain ⟨_, its2, r2, o, ho, hc, n, hd⟩ := I.hok _ _ ht
    obtain ⟨u1, u2, rfl, ri, rj⟩ := vals2 r2
    obtain ⟨t1, rfl⟩ := ri
    obtain rfl : u2 = Value.ref u := rj
    obtain ⟨_, its3, r3, o3, ho3, hc3, n3, hd3⟩ := I.hok _ _ hu
    obtain ⟨u3, u4, rfl, rk, rl⟩ := vals2 r3
    obtain ⟨t3, rfl⟩ := rk
    obtain ⟨t4, rfl⟩ := rl
    exact ⟨t, o, t1, n, u, rfl, ho, hc, hd, t3, t4, o3, ho3, hc3, n3, hd3⟩
  refine SrtO.sorted_ord (SrtK.swo_key fun v => (k (backV v)).1) hl.isList (by rw [← rv.length]; exact hz) (fun h2 h₁ b hb kk => ?_) fun out h1 h2 => ?_
  · refine SrtK.key_sortable (k := fun v => k (backV v)) (s := { s with heap := h₁ }) (by omega) (by show X.A.units + 1 + 1 < cLine; omega) (fun v hv => (hkey v hv).keeps fun b o e _ => (kk b o e).2) (fun v hv u hu => hk _ (hmem v hv) _ (hmem u hu)) fun o e => ?_
    have e' : some o = some (seqObj "list" its.toArray 0) := e.symm.trans hb
    cases e'
    intro c
    exact absurd (Value.type.inj c) (by decide)
  · have h3 : ∀ u ∈ out, ∃ a, u = Value.ref a := fun u hu => e2 u (h2.perm.mem_iff.mp hu)
    have hp : (out.map backV).Perm xs := by
      rw [e1]
      exact h2.perm.map backV
    have hs2 : (out.map backV).Pairwise fun x y => ¬ (k y).1 < (k x).1 := List.pairwise_map.mpr (h1.imp fun h => of_decide_eq_false h)
    have hd : s.heap.objs.size ≤ s.heap.objs.size + 1 := Nat.le_succ _
    have hat := sortedAll_at s.heap its out.toArray
    refine ⟨.ref (s.heap.objs.size + 1), upd H (s.heap.objs.size + 1) (.lst (out.map backV)), I.laid (t' := s.toks) (fun b o e => sortedAll_old e) hd ?_, rfl, q _ _ hs2 hp (I.hok.fresh hd)⟩
    obtain ⟨n, hn⟩ := hat
    exact ⟨by rw [hp.length_eq]; exact hz, out, n, vals_back h3, hn⟩
end
end K14
end
section
/-! The law's drawing. -/
namespace K14
open PySem PySem.Spec PyProof.Rows L2 RZ K14H
/-- the source at src: the script's copy in B, how far it is read -/
structure SrcAt (B H : Hp) (src : Addr) : Prop where
  ex : ∃ (sc : Addr) (ns : List Int) (idx num cnt : Nat) (fold : Int), H src = some (.lst [.ref sc, .int idx, .int num, .int cnt, .int fold]) ∧ B sc = some (.lst (ns.map .int))
  ext : Ext B H
  out : B src = none
theorem SrcAt.kp {B H H' : Hp} {src : Addr} {S : List Addr} (h : SrcAt B H src) (k : Kp S H H') (hs : ∀ s ∈ S, B s = none) (hn : src ∉ S) : SrcAt B H' src := by
  obtain ⟨sc, ns, idx, num, cnt, fold, h1, h2⟩ := h.ex
  exact ⟨⟨sc, ns, idx, num, cnt, fold, k _ _ h1 hn, h2⟩, h.ext.under k hs, h.out⟩
theorem SrcAt.e {B H H' : Hp} {src : Addr} (h : SrcAt B H src) (e : Ext H H') : SrcAt B H' src := h.kp (S := []) e.kp (fun _ z => absurd z (by simp)) (by simp)
/-- B may be taken larger -/
theorem SrcAt.more {B B' H : Hp} {src : Addr} (h : SrcAt B H src) (e : Ext B B') (e' : Ext B' H) (o : B' src = none) : SrcAt B' H src := by
  obtain ⟨sc, ns, idx, num, cnt, fold, h1, h2⟩ := h.ex
  exact ⟨⟨sc, ns, idx, num, cnt, fold, h1, e _ _ h2⟩, e', o⟩
theorem SrcAt.lst {B H : Hp} {src : Addr} (h : SrcAt B H src) : ∃ xs, H src = some (.lst xs) := by
  obtain ⟨sc, ns, idx, num, cnt, fold, h1, h2⟩ := h.ex
  exact ⟨_, h1⟩
section
variable {P : Program} {w : World} {K : PySem.W.Frag} {mg : Str → Option Value} {base : Heap}
abbrev s__law_source : Stmt := top 63
abbrev N__law_source : List Str := ["_law_script", "_law_folded", "_law_cell"]
theorem sc__law_source : FnScope N__law_source ["_law_script"] (C8.fnScope s__law_source) := C8.fnScope_by (by decide +kernel)
def sp_source (K : PySem.W.Frag) : Sp := fun vs H Q _ => ∃ (a : Addr) (ns : List Int), vs = [.ref a] ∧ SqL K H a (ns.map .int) ∧ ∀ B src H', Ext H B → Ext B H' → SrcAt B H' src → Q (.ref src) H'
theorem c__law_source (T : Txt K mg) : C8.Cal P w K mg base 1 "_law_source" (sp_source K) [] := by
  refine calD T.d__law_source sc__law_source (fun vs H Q E ⟨a, ns, e, _⟩ => by rw [e]; rfl) fun f cdv A outer s H vs Q E hr h => ⟨_, (pss_cons (ps_set (i := 1) sc__law_source.nd rfl (Or.inl rfl) pe_int)
    (pss_cons (ps_for PassesOwn.never rfl (pi_list (pv 0)) (pg_name (i := 2) sc__law_source.nd rfl (Or.inl rfl))
      (pss_one (ps_set (i := 1) sc__law_source.nd rfl (Or.inl rfl) (pe_op op_mod (pe_callTy call_int1 (by rfl) T.z_int (by decide +kernel) (pa_cons (pe_op op_add (pe_op op_mul (pv 1) pe_int) (pv 2)) pa_nil)) pe_int))))
    (pss_one (ps_ret (pe_lst (pa_cons (pe_callTy call_list_of (by rfl) T.z_list (by decide +kernel) (pa_cons (pv 0) pa_nil)) (pa_cons pe_int (pa_cons pe_int (pa_cons pe_int (pa_cons (pv 1) pa_nil)))))))))), ?_⟩
  obtain ⟨a, ns, rfl, ha, q⟩ := h
  refine ⟨_, rfl, a, rfl, ⟨_, ha⟩, ?_⟩
  refine for_it (walk_list (xs := ns.map V.int)) (fun i σ H' => H' = H ∧ ∃ (z : Int) (y : Option V), σ = [some (.ref a), some (.int z), y]) ⟨rfl, _, _, rfl⟩ (fun i σ H' _ ⟨e, _⟩ => by rw [e]; exact ha) (fun i x σ H1 H2 hi ⟨e, z, y, es⟩ hy => ?_) fun σ H' ⟨e, z, y, es⟩ => ?_
  · subst e es
    obtain ⟨rfl, hy⟩ := hy
    rw [List.getElem?_map] at hy
    cases hx : ns[i]? with
    | none => rw [hx] at hy; cases hy
    | some c =>
      rw [hx] at hy
      obtain rfl : V.int c = x := Option.some.inj hy
      exact ⟨_, rfl, _, _, rfl, rfl, .inr ⟨by decide, by decide⟩, _, rfl, _, _, rfl, rfl, .inl ⟨_, rfl, _, _, rfl, rfl, (by decide : (0 : Int) < 2147483647), rfl, _, _, rfl⟩⟩
  · subst e es
    refine ⟨_, rfl, a, _, rfl, .inl ha, fun l hl => ⟨_, rfl, (by show 5 ≤ sizeLine; decide), fun p hp => ?_⟩⟩
    refine q (upd H' l (.lst (ns.map .int))) p _ (Ext.new hl) (Ext.new hp) ⟨⟨l, ns, 0, 0, 0, z, upd_same, upd_same⟩, Ext.new hp, hp⟩
abbrev s__law_mixed : Stmt := top 64
abbrev N__law_mixed : List Str := ["_law_number", "_law_turn", "_law_mixed_here"]
theorem sc__law_mixed : FnScope N__law_mixed ["_law_number", "_law_turn"] (C8.fnScope s__law_mixed) := C8.fnScope_by (by decide +kernel)
def sp_mixed : Sp := fun vs H Q _ => ∃ n t : Int, vs = [.int n, .int t] ∧ ∀ r : Int, 0 ≤ r → Q (.int r) H
theorem c__law_mixed (T : Txt K mg) : C8.Cal P w K mg base 1 "_law_mixed" sp_mixed [] := by
  refine calD T.d__law_mixed sc__law_mixed (fun vs H Q E ⟨a, ns, e, _⟩ => by rw [e]; rfl) fun f cdv A outer s H vs Q E hr h => ⟨_, (pss_cons (ps_set (i := 2) sc__law_mixed.nd rfl (Or.inl rfl) (pe_op op_mod (pe_callTy call_int1 (by rfl) T.z_int (by decide +kernel) (pa_cons (pe_op op_mul (pe_op op_mod (pe_callTy call_int1 (by rfl) T.z_int (by decide +kernel) (pa_cons (pe_op op_add (pe_op op_add (pv 0) (pe_op op_mul pe_int (pv 1))) pe_int) pa_nil)) pe_int) pe_int) pa_nil)) pe_int))
    (pss_cons (ps_set (i := 2) sc__law_mixed.nd rfl (Or.inl rfl) (pe_op op_mod (pe_callTy call_int1 (by rfl) T.z_int (by decide +kernel) (pa_cons (pe_op op_mul (pv 2) (pe_op op_add (pe_op op_fdiv (pv 2) pe_int) pe_int)) pa_nil)) pe_int))
    (pss_one (ps_ret (pe_op op_mod (pe_callTy call_int1 (by rfl) T.z_int (by decide +kernel) (pa_cons (pe_op op_mul (pv 2) (pe_op op_add (pe_op op_fdiv (pv 2) pe_int) pe_int)) pa_nil)) pe_int))))), ?_⟩
  obtain ⟨n, t, rfl, q⟩ := h
  have bd : ∀ z : Int, -(2 ^ 64) < z % 2147483647 ∧ z % 2147483647 < 2 ^ 64 := fun z => by
    have h1 := Int.emod_nonneg z (show (2147483647 : Int) ≠ 0 by decide)
    have h2 := Int.emod_lt_of_pos z (show (0 : Int) < 2147483647 by decide)
    omega
  have p1 : (0 : Int) < 2147483647 := by decide
  refine ⟨_, rfl, _, rfl, _, _, rfl, rfl, .inl ⟨by decide, by decide⟩, _, _, rfl, rfl, _, _, rfl, rfl, .inl ⟨_, rfl, _, _, rfl, rfl, p1, _, _, rfl, rfl, .inr ⟨by decide, by decide⟩, .inl ⟨_, rfl, _, _, rfl, rfl, p1, ?_⟩⟩⟩
  refine ⟨_, rfl, _, rfl, _, _, rfl, rfl, ⟨by decide, by decide⟩, _, _, rfl, rfl, _, _, rfl, rfl, .inl (bd _), .inl ⟨_, rfl, _, _, rfl, rfl, p1, ?_⟩⟩
  refine ⟨_, rfl, _, rfl, _, _, rfl, rfl, ⟨by decide, by decide⟩, _, _, rfl, rfl, _, _, rfl, rfl, .inl (bd _), .inl ⟨_, rfl, _, _, rfl, rfl, (by decide : (0 : Int) < 2147483399), q _ (Int.emod_nonneg _ (by decide))⟩⟩
abbrev s__law_draw : Stmt := top 65
abbrev N__law_draw : List Str := ["_law_source_here", "_law_many", "_law_number", "_law_cell"]
theorem sc__law_draw : FnScope N__law_draw ["_law_source_here", "_law_many"] (C8.fnScope s__law_draw) := C8.fnScope_by (by decide +kernel)
def sp_draw : Sp := fun vs H Q _ => ∃ (B : Hp) (src : Addr) (many : Int), vs = [.ref src, .int many] ∧ 0 < many ∧ many < 2 ^ 200 ∧ SrcAt B H src ∧ ∀ r H', 0 ≤ r → r < many → SrcAt B H' src → Kp [src] H H' → Tk H H' → Q (.int r) H'
theorem c__law_draw (T : Txt K mg) : C8.Cal P w K mg base 2 "_law_draw" sp_draw [] := by
  refine calD T.d__law_draw sc__law_draw (fun vs H Q E ⟨B, src, m, e, _⟩ => by rw [e]; rfl) fun f cdv A outer s H vs Q E hr h => ⟨_, (pss_cons (ps_asg (pe_op op_add (pe_ix (ix_k (K := K) rfl) (pv 0) pe_int (fun _ _ => rfl)) pe_int) (pg_sub (pv 0) pe_int set_list))
    (pss_cons (ps_if (pt_cmpR op_gt (pe_ix (ix_k (K := K) rfl) (pv 0) pe_int (fun _ _ => rfl)) pe_int (nomark _)) (pss_cons (ps_set (i := 2) sc__law_draw.nd rfl (Or.inl rfl) (pe_ix (ix_k (K := K) rfl) (pv 0) pe_int (fun _ _ => rfl)))
    (pss_cons (ps_asg (pe_op op_fdivW (pv 2) (pv 1)) (pg_sub (pv 0) pe_int set_list))
    (pss_one (ps_ret (pe_op op_mod (pe_callTy call_int1 (by rfl) T.z_int (by decide +kernel) (pa_cons (pv 2) pa_nil)) (pv 1)))))) pss_nil)
    (pss_cons (ps_if (pt_cmpR op_lt (pe_ix (ix_k (K := K) rfl) (pv 0) pe_int (fun _ _ => rfl)) (pe_callB call_len_seq (by rfl) T.z_len (by decide +kernel) (pa_cons (pe_ix (ix_k (K := K) rfl) (pv 0) pe_int (fun _ _ => rfl)) pa_nil)) (nomark _)) (pss_cons (ps_set (i := 3) sc__law_draw.nd rfl (Or.inl rfl) (pe_ix (ix_k (K := K) rfl) (pe_ix (ix_k (K := K) rfl) (pv 0) pe_int (fun _ _ => rfl)) (pe_ix (ix_k (K := K) rfl) (pv 0) pe_int (fun _ _ => rfl)) (fun _ _ => rfl)))
    (pss_cons (ps_asg (pe_op op_add (pe_ix (ix_k (K := K) rfl) (pv 0) pe_int (fun _ _ => rfl)) pe_int) (pg_sub (pv 0) pe_int set_list))
    (pss_cons (ps_set (i := 2) sc__law_draw.nd rfl (Or.inl rfl) (pe_op op_add (pe_op op_mul pe_int (pe_callB call_abs (by rfl) T.z_abs (by decide +kernel) (pa_cons (pv 3) pa_nil))) (pe_callTy call_int1 (by rfl) T.z_int (by decide +kernel) (pa_cons (pe_cmpR op_lt (pv 3) pe_int (nomark _)) pa_nil))))
    (pss_cons (ps_if (pt_cmpR op_ge (pv 2) (pe_op op_pow pe_int pe_int) (nomark _)) (pss_cons (ps_asg (pe_op op_fdivW (pv 2) (pv 1)) (pg_sub (pv 0) pe_int set_list))
    (pss_one (ps_ret (pe_op op_mod (pe_callTy call_int1 (by rfl) T.z_int (by decide +kernel) (pa_cons (pv 2) pa_nil)) (pv 1))))) pss_nil)
    (pss_one (ps_ret (pe_op op_mod (pe_callTy call_int1 (by rfl) T.z_int (by decide +kernel) (pa_cons (pe_op op_fdivW (C8.pe_c (c__law_mixed T) hr (by decide) (by rfl) (pa_cons (pv 2) (pa_cons (pe_ix (ix_k (K := K) rfl) (pv 0) pe_int (fun _ _ => rfl)) pa_nil))) pe_int) pa_nil)) (pv 1)))))))) pss_nil)
    (pss_one (ps_ret (pe_op op_mod (pe_callTy call_int1 (by rfl) T.z_int (by decide +kernel) (pa_cons (pe_op op_fdivW (C8.pe_c (c__law_mixed T) hr (by decide) (by rfl) (pa_cons (pe_ix (ix_k (K := K) rfl) (pv 0) pe_int (fun _ _ => rfl)) (pa_cons (pe_ix (ix_k (K := K) rfl) (pv 0) pe_int (fun _ _ => rfl)) pa_nil))) pe_int) pa_nil)) (pv 1))))))), ?_⟩
  obtain ⟨B, src, m, rfl, hm, hm2, hS, q⟩ := h
  obtain ⟨sc, ns, idx, num, cnt, fold, h1, h2⟩ := hS.ex
  have hdm : CDivW 0 m := wide_div (b := 200) hm (by omega) (by decide) (by decide)
  have fin : ∀ (i j c : Nat) (r : Int), 0 ≤ r → r < m → Q (.int r) (upd H src (.lst [.ref sc, .int i, .int j, .int c, .int fold])) := fun i j c r r1 r2 =>
    q r _ r1 r2 ⟨⟨sc, ns, i, j, c, fold, upd_same, h2⟩, hS.ext.under (Kp.upd (S := [src]) (by simp)) (fun s hs => by rw [List.mem_singleton.mp hs]; exact hS.out), hS.out⟩ (Kp.upd (by simp)) (Tk.upd h1 trivial)
  refine ⟨_, rfl, src, _, 3, _, rfl, rfl, .inl (lstOf h1), rfl, _, _, rfl, rfl, _, rfl, src, _, _, 3, rfl, rfl, h1, rfl, ?_⟩
  show tSeq _ _ _ _ (upd H src (.lst [.ref sc, .int idx, .int num, .int ((cnt : Int) + 1), .int fold]))
  rw [show ((cnt : Int) + 1) = ((cnt + 1 : Nat) : Int) by omega]
  have g1 : upd H src (.lst [.ref sc, .int idx, .int num, .int ((cnt + 1 : Nat) : Int), .int fold]) src = some (.lst [.ref sc, .int idx, .int num, .int ((cnt + 1 : Nat) : Int), .int fold]) := upd_same
  have nd : ∀ k : Nat, (k : Int) / m = ((k / m.toNat : Nat) : Int) := fun k => by
    rw [Int.natCast_ediv, Int.toNat_of_nonneg (by omega)]
  have md : ∀ k : Int, 0 ≤ k % m ∧ k % m < m := fun k => ⟨Int.emod_nonneg k (by omega), Int.emod_lt_of_pos k hm⟩
  refine ⟨_, rfl, src, _, 2, _, rfl, rfl, .inl (lstOf g1), rfl, _, _, rfl, rfl, _, rfl, ?_⟩
  show if decide ((0 : Int) < (num : Int)) = true then _ else _
  by_cases hn : 0 < num
  · rw [if_pos (decide_eq_true (by omega))]
    refine ⟨_, rfl, src, _, 2, _, rfl, rfl, .inl (lstOf g1), rfl, _, rfl, _, rfl, _, _, rfl, rfl, hdm, _, rfl, src, _, _, 2, rfl, rfl, g1, rfl, _, rfl, .inl ⟨_, rfl, _, rfl, _, _, rfl, rfl, hm, ?_⟩⟩
    show Q (.int ((num : Int) % m)) (upd (upd H src _) src (.lst [.ref sc, .int idx, .int ((num : Int) / m), .int ((cnt + 1 : Nat) : Int), .int fold]))
    rw [upd_upd, nd]
    exact fin _ _ _ _ (md _).1 (md _).2
  · rw [if_neg (fun z => hn (by have := of_decide_eq_true z; omega))]
    have hsc : upd H src (.lst [.ref sc, .int idx, .int num, .int ((cnt + 1 : Nat) : Int), .int fold]) sc = some (.lst (ns.map .int)) := by
      rw [upd_ne fun z => by rw [z, hS.out] at h2; cases h2]
      exact hS.ext _ _ h2
    refine ⟨_, rfl, src, _, 1, _, rfl, rfl, .inl (lstOf g1), rfl, _, rfl, src, _, 0, _, rfl, rfl, .inl (lstOf g1), rfl, sc, _, rfl, .inl (lstOf hsc), _, _, rfl, rfl, _, rfl, ?_⟩
    show if decide ((idx : Int) < (((ns.map V.int).length : Nat) : Int)) = true then _ else _
    by_cases hi : idx < ns.length
    · rw [if_pos (decide_eq_true (by rw [List.length_map]; omega))]
      have hat : atI (ns.map V.int) (idx : Int) = some (.int (wd ns idx)) := atI_nat (wd_at hi)
      refine ⟨_, rfl, src, _, 0, _, rfl, rfl, .inl (lstOf g1), rfl, _, rfl, src, _, 1, _, rfl, rfl, .inl (lstOf g1), rfl, sc, _, _, _, rfl, rfl, .inl (lstOf hsc), hat, ?_⟩
      refine ⟨_, rfl, src, _, 1, _, rfl, rfl, .inl (lstOf g1), rfl, _, _, rfl, rfl, _, rfl, src, _, _, 1, rfl, rfl, g1, rfl, ?_⟩
      refine ⟨_, rfl, _, rfl, _, _, rfl, rfl, .inl ⟨by decide, by decide⟩, _, rfl, _, _, rfl, rfl, .inr ⟨_, rfl, _, _, rfl, rfl, ?_⟩⟩
      have hnn : 0 ≤ 2 * (if wd ns idx < 0 then -wd ns idx else wd ns idx) + (if decide (wd ns idx < 0) = true then (1 : Int) else 0) := by
        split <;> split <;> omega
      obtain ⟨z, hz⟩ : ∃ z : Nat, 2 * (if wd ns idx < 0 then -wd ns idx else wd ns idx) + (if decide (wd ns idx < 0) = true then (1 : Int) else 0) = (z : Int) := ⟨_, (Int.toNat_of_nonneg hnn).symm⟩
      refine ⟨_, rfl, _, _, rfl, rfl, ⟨by decide, by decide, by decide⟩, _, _, rfl, rfl, _, rfl, ?_⟩
      rw [hz]
      show if decide ((10 : Int) ^ 18 ≤ (z : Int)) = true then _ else _
      by_cases hc : (10 : Int) ^ 18 ≤ (z : Int)
      · rw [if_pos (decide_eq_true hc)]
        refine ⟨_, rfl, _, rfl, _, _, rfl, rfl, hdm, _, rfl, src, _, _, 2, rfl, rfl, upd_same, rfl, _, rfl, .inl ⟨_, rfl, _, rfl, _, _, rfl, rfl, hm, ?_⟩⟩
        rw [upd_upd, upd_upd]
        show Q (.int ((2 * (if wd ns idx < 0 then -wd ns idx else wd ns idx) + (if decide (wd ns idx < 0) = true then (1 : Int) else 0)) % m)) (upd H src (.lst [.ref sc, .int ((idx + 1 : Nat) : Int), .int ((2 * (if wd ns idx < 0 then -wd ns idx else wd ns idx) + (if decide (wd ns idx < 0) = true then (1 : Int) else 0)) / m), .int ((cnt + 1 : Nat) : Int), .int fold]))
        rw [hz, nd]
        exact fin _ _ _ _ (md _).1 (md _).2
      · rw [if_neg (fun q => hc (of_decide_eq_true q))]
        refine ⟨_, rfl, _, rfl, src, _, 3, _, rfl, rfl, .inl (lstOf upd_same), rfl, ?_⟩
        refine ⟨_, _, rfl, fun r hr => ⟨_, _, rfl, rfl, wide_div (b := 5) (by decide) (by decide) (by decide) (by decide), .inl ⟨_, rfl, _, rfl, _, _, rfl, rfl, hm, ?_⟩⟩⟩
        rw [upd_upd]
        exact fin (idx + 1) _ _ _ (md _).1 (md _).2
    · rw [if_neg (fun z => hi (by have := of_decide_eq_true z; rw [List.length_map] at this; omega))]
      refine ⟨_, rfl, src, _, 4, _, rfl, rfl, .inl (lstOf g1), rfl, _, rfl, src, _, 3, _, rfl, rfl, .inl (lstOf g1), rfl, ?_⟩
      exact ⟨_, _, rfl, fun r hr => ⟨_, _, rfl, rfl, wide_div (b := 5) (by decide) (by decide) (by decide) (by decide), .inl ⟨_, rfl, _, rfl, _, _, rfl, rfl, hm, fin _ _ _ _ (md _).1 (md _).2⟩⟩⟩
end
end K14
end
section
/-! The law's drawn things: steps, widths, pipes, fillings, openings. -/
namespace K14
open PySem PySem.Spec PyProof.Rows L2 RZ K14H
/-- what drawing does to the heap -/
structure Dr (B : Hp) (src : Addr) (H H' : Hp) : Prop where
  kp : Kp [src] H H'
  tk : Tk H H'
  s : SrcAt B H' src
theorem Dr.refl {B H : Hp} {src : Addr} (h : SrcAt B H src) : Dr B src H H := ⟨(Ext.refl H).kp, Tk.refl H, h⟩
theorem Dr.ext {B H H1 H' : Hp} {src : Addr} (d : Dr B src H H1) (e : Ext H1 H') : Dr B src H H' := ⟨d.kp.trans e.kp, d.tk.trans e.tk, d.s.e e⟩
theorem Dr.trans {B H H1 H' : Hp} {src : Addr} (d : Dr B src H H1) (e : Dr B src H1 H') : Dr B src H H' := ⟨d.kp.trans e.kp, d.tk.trans e.tk, e.s⟩
theorem Dr.draw {B H H1 H' : Hp} {src : Addr} (d : Dr B src H H1) (s : SrcAt B H' src) (k : Kp [src] H1 H') (t : Tk H1 H') : Dr B src H H' := ⟨d.kp.trans k, d.tk.trans t, s⟩
theorem Dr.lst {B H H1 : Hp} {src L : Addr} {xs ys : List V} (d : Dr B src H H1) (h0 : SrcAt B H src) (hL : H L = none) (hl : H1 L = some (.lst xs)) : Dr B src H (upd H1 L (.lst ys)) := by
  have hs : src ≠ L := fun z => by
    obtain ⟨q, h⟩ := h0.lst
    rw [z, hL] at h
    cases h
  refine ⟨fun b o e n => ?_, d.tk.trans (Tk.upd hl trivial), d.s.kp (S := [L]) (Kp.upd (by simp)) (fun s hs => ?_) (by simpa using hs)⟩
  · rw [upd_ne (ne_of_none e hL)]
    exact d.kp b o e n
  · rw [List.mem_singleton.mp hs]
    exact h0.ext.out hL
theorem Dr.at {B H H1 : Hp} {src L : Addr} {o : HO} (d : Dr B src H H1) (h : H L = some o) (n : L ≠ src) : H1 L = some o := d.kp _ _ h (by simpa using n)
section
variable {P : Program} {w : World} {K : PySem.W.Frag} {mg : Str → Option Value} {base : Heap}
theorem src_ne {B H : Hp} {src L : Addr} (h : SrcAt B H src) (hL : H L = none) : L ≠ src := fun z => by
  obtain ⟨q, e⟩ := h.lst
  rw [← z, hL] at e
  cases e
abbrev s__law_pick : Stmt := top 66
abbrev N__law_pick : List Str := ["_law_source_here", "_law_row"]
theorem sc__law_pick : FnScope N__law_pick ["_law_source_here", "_law_row"] (C8.fnScope s__law_pick) := C8.fnScope_by (by decide +kernel)
def sp_pick : Sp := fun vs H Q _ => ∃ (B : Hp) (src a : Addr) (xs : List V), vs = [.ref src, .ref a] ∧ SrcAt B H src ∧ H a = some (.lst xs) ∧ a ≠ src ∧ 0 < xs.length ∧ xs.length < 1000 ∧ ∀ v H', v ∈ xs → Dr B src H H' → Q v H'
theorem c__law_pick (T : Txt K mg) : C8.Cal P w K mg base 3 "_law_pick" sp_pick [] := by
  refine calD T.d__law_pick sc__law_pick (fun vs H Q E ⟨B, src, a, xs, e, _⟩ => by rw [e]; rfl) fun f cdv A outer s H vs Q E hr h => ⟨_, (pss_one (ps_ret (pe_ix (ix_k (K := K) rfl) (pv 1) (C8.pe_c (c__law_draw T) hr (by decide) (by rfl) (pa_cons (pv 0) (pa_cons (pe_callB call_len_seq (by rfl) T.z_len (by decide +kernel) (pa_cons (pv 1) pa_nil)) pa_nil))) (fun _ _ => rfl)))), ?_⟩
  obtain ⟨B, src, a, xs, rfl, hS, ha, hn, h0, hl, q⟩ := h
  refine ⟨_, rfl, _, rfl, _, rfl, a, _, rfl, .inl (lstOf ha), B, src, _, rfl, by omega, by omega, hS, fun r H' r0 r1 s' k t => ?_⟩
  have hi : r.toNat < xs.length := by omega
  refine ⟨a, xs, r, xs[r.toNat], rfl, rfl, .inl (lstOf (k _ _ ha (by simpa using hn))), ?_, q _ _ (List.getElem_mem hi) ⟨k, t, s'⟩⟩
  have e : ((r.toNat : Nat) : Int) = r := Int.toNat_of_nonneg r0
  have z := atI_nat (List.getElem?_eq_getElem hi)
  rw [e] at z
  exact z
abbrev s__law_divisor : Stmt := top 67
abbrev N__law_divisor : List Str := ["_law_one", "_law_other", "_law_turn"]
theorem sc__law_divisor : FnScope N__law_divisor ["_law_one", "_law_other"] (C8.fnScope s__law_divisor) := C8.fnScope_by (by decide +kernel)
def sp_ldivisor : Sp := fun vs H Q _ => ∃ a b : Int, vs = [.int a, .int b] ∧ b.natAbs ≤ 500 ∧ Q (.int (Int.gcd a b)) H
theorem c__law_divisor (T : Txt K mg) : C8.Cal P w K mg base 1 "_law_divisor" sp_ldivisor [] := by
  refine calD T.d__law_divisor sc__law_divisor (fun vs H Q E ⟨a, b, e, _⟩ => by rw [e]; rfl) fun f cdv A outer s H vs Q E hr h => ⟨_, (pss_cons (ps_par (i := 0) (j := 1) (by rfl) sc__law_divisor.nd rfl rfl (by decide) rfl rfl (pa_cons (pe_callB call_abs (by rfl) T.z_abs (by decide +kernel) (pa_cons (pv 0) pa_nil)) (pa_cons (pe_callB call_abs (by rfl) T.z_abs (by decide +kernel) (pa_cons (pv 1) pa_nil)) pa_nil)) (by rfl))
    (pss_cons (ps_for PassesOwn.never rfl (pi_range1 (by rfl) T.z_range (pa_cons pe_int pa_nil)) (pg_name (i := 2) sc__law_divisor.nd rfl (Or.inl rfl))
      (pss_cons (ps_if (pt_cmpR op_eq (pv 1) pe_int (nomark _)) (pss_one ps_break) pss_nil)
    (pss_one (ps_par (i := 0) (j := 1) (by rfl) sc__law_divisor.nd rfl rfl (by decide) rfl rfl (pa_cons (pv 1) (pa_cons (pe_op op_mod (pe_callTy call_int1 (by rfl) T.z_int (by decide +kernel) (pa_cons (pv 0) pa_nil)) (pv 1)) pa_nil)) (by rfl)))))
    (pss_one (ps_ret (pv 0))))), ?_⟩
  obtain ⟨a, b, rfl, hb, q⟩ := h
  refine ⟨_, rfl, _, rfl, _, rfl, _, rfl, _, _, rfl, 600, rfl, by decide, by decide, ?_⟩
  refine for_it (walk_range (lo := 0) (n := (600 : Int).toNat)) (fun i σ H' => H' = H ∧ ∃ (x y : Nat) (z : Option V), σ = [some (.int x), some (.int y), z] ∧ Nat.gcd x y = Int.gcd a b ∧ y + i ≤ 500) ⟨rfl, a.natAbs, b.natAbs, none, ?_, rfl, by omega⟩ (fun _ _ _ _ _ => trivial) (fun i x σ H1 H2 hi ⟨e, x0, y0, z, es, hg, hy⟩ hyy => ?_) fun σ H' ⟨e, x0, y0, z, es, hg, hy⟩ => ?_
  · show [some (V.int (if a < 0 then -a else a)), some (V.int (if b < 0 then -b else b)), none] = _
    rw [abs_nat, abs_nat]
  · obtain ⟨rfl, rfl⟩ := hyy
    subst e es
    refine ⟨_, rfl, rfl, _, rfl, ?_⟩
    by_cases h0 : y0 = 0
    · subst h0
      refine takeIf rfl ?_
      rw [Nat.gcd_zero_right] at hg
      rw [← hg] at q
      exact ⟨_, rfl, q⟩
    · refine skipIf (by omega) ?_
      refine ⟨_, rfl, _, rfl, .inl ⟨_, rfl, _, rfl, _, _, rfl, rfl, by omega, _, _, rfl, rfl, y0, x0 % y0, _, rfl, ?_, ?_⟩⟩
      · rw [← hg, Nat.gcd_comm x0 y0, Nat.gcd_rec y0 x0, Nat.gcd_comm]
      · have := Nat.mod_lt x0 (Nat.pos_of_ne_zero h0)
        omega
  · exfalso
    have : (600 : Int).toNat = 600 := rfl
    omega
abbrev s__law_made : Stmt := top 68
abbrev N__law_made : List Str := ["_law_top", "_law_bottom", "_law_part"]
theorem sc__law_made : FnScope N__law_made ["_law_top", "_law_bottom"] (C8.fnScope s__law_made) := C8.fnScope_by (by decide +kernel)
def sp_lmade : Sp := fun vs H Q _ => ∃ t b : Int, vs = [.int t, .int b] ∧ 0 < b ∧ b ≤ 500 ∧ ∀ p, H p = none → Q (.ref p) (upd H p (.tup [.int (t / (Int.gcd t b : Int)), .int (b / (Int.gcd t b : Int))]))
theorem c__law_made (T : Txt K mg) : C8.Cal P w K mg base 2 "_law_made" sp_lmade [] := by
  refine calD T.d__law_made sc__law_made (fun vs H Q E ⟨a, b, e, _⟩ => by rw [e]; rfl) fun f cdv A outer s H vs Q E hr h => ⟨_, (pss_cons (ps_set (i := 2) sc__law_made.nd rfl (Or.inl rfl) (C8.pe_c (c__law_divisor T) hr (by decide) (by rfl) (pa_cons (pv 0) (pa_cons (pv 1) pa_nil))))
    (pss_one (ps_ret (pe_tup (pa_cons (pe_op op_fdiv (pv 0) (pv 2)) (pa_cons (pe_op op_fdiv (pv 1) (pv 2)) pa_nil)))))), ?_⟩
  obtain ⟨a, b, rfl, h1, h2, q⟩ := h
  have g1 := gcd_pos (a := a) (b := b) (by omega)
  have g2 := gcd_le (a := a) h1
  have c : CDiv a (Int.gcd a b : Int) := ⟨g1, by omega⟩
  exact ⟨_, rfl, _, rfl, _, _, rfl, by omega, _, rfl, _, rfl, _, _, rfl, rfl, c, _, rfl, _, rfl, _, _, rfl, rfl, c, (by show 2 ≤ sizeLine; decide), fun p hp => q p hp⟩
/-- a drawn step: its bottom is small -/
def DStep (s : Int × Int) : Prop := 1 ≤ s.1 ∧ s.1 ≤ 1000 ∧ 1 ≤ s.2 ∧ s.2 ≤ 4 ∧ Int.gcd s.1 s.2 = 1
def keyN (s : Int × Int) : Int := s.1 * 1000000 / s.2
theorem key_lt {s t : Int × Int} (hs : DStep s) (ht : DStep t) (h : t.1 * s.2 < s.1 * t.2) : keyN t < keyN s := by
  obtain ⟨s1, s2, s3, s4, s5⟩ := hs
  obtain ⟨t1, t2, t3, t4, t5⟩ := ht
  obtain ⟨a, b⟩ := s
  obtain ⟨c, d⟩ := t
  dsimp only at *
  unfold keyN
  have hb : b = 1 ∨ b = 2 ∨ b = 3 ∨ b = 4 := by omega
  have hd : d = 1 ∨ d = 2 ∨ d = 3 ∨ d = 4 := by omega
  rcases hb with rfl | rfl | rfl | rfl <;> rcases hd with rfl | rfl | rfl | rfl <;> dsimp only <;> omega
theorem cross_eq {s t : Int × Int} (hs : DStep s) (ht : DStep t) (h : t.1 * s.2 = s.1 * t.2) : s = t := by
  obtain ⟨s1, s2, s3, s4, s5⟩ := hs
  obtain ⟨t1, t2, t3, t4, t5⟩ := ht
  obtain ⟨a, b⟩ := s
  obtain ⟨c, d⟩ := t
  dsimp only at *
  obtain ⟨a, rfl⟩ : ∃ n : Nat, a = n := ⟨a.toNat, by omega⟩
  obtain ⟨b, rfl⟩ : ∃ n : Nat, b = n := ⟨b.toNat, by omega⟩
  obtain ⟨c, rfl⟩ : ∃ n : Nat, c = n := ⟨c.toNat, by omega⟩
  obtain ⟨d, rfl⟩ : ∃ n : Nat, d = n := ⟨d.toNat, by omega⟩
  have h : c * b = a * d := by exact_mod_cast h
  have g1 : Nat.Coprime b a := Nat.Coprime.symm s5
  have g2 : Nat.Coprime d c := Nat.Coprime.symm t5
  have d1 : b ∣ d := g1.dvd_of_dvd_mul_left ⟨c, by rw [← h, Nat.mul_comm]⟩
  have d2 : d ∣ b := g2.dvd_of_dvd_mul_left ⟨a, by rw [h, Nat.mul_comm]⟩
  have e : b = d := Nat.dvd_antisymm d1 d2
  subst e
  have e2 : c = a := Nat.eq_of_mul_eq_mul_right (by omega) h
  rw [e2]
theorem key_eq {s t : Int × Int} (hs : DStep s) (ht : DStep t) (h : keyN s = keyN t) : s = t := by
  rcases Int.lt_trichotomy (t.1 * s.2) (s.1 * t.2) with q | q | q
  · have := key_lt hs ht q
    omega
  · exact cross_eq hs ht q
  · have := key_lt ht hs q
    omega
theorem dstep_v {s : Int × Int} (h : DStep s) : VStep s := ⟨h.1, by have := h.2.1; omega, h.2.2.1, by have := h.2.2.2.1; omega, h.2.2.2.2⟩
theorem exists_map {α : Type} {xs : List V} {R : V → α → Prop} : (∀ x ∈ xs, ∃ s, R x s) → ∃ ss : List α, ss.length = xs.length ∧ ∀ (i : Nat) (x : V) (s : α), xs[i]? = some x → ss[i]? = some s → R x s := by
  induction xs with
  | nil => exact fun _ => ⟨[], rfl, fun i x s h => by simp at h⟩
  | cons x xs ih =>
    intro h
    obtain ⟨s, hs⟩ := h x (List.mem_cons_self ..)
    obtain ⟨ss, h1, h2⟩ := ih fun y hy => h y (List.mem_cons_of_mem _ hy)
    refine ⟨s :: ss, by rw [List.length_cons, List.length_cons, h1], fun i y t e1 e2 => ?_⟩
    cases i with
    | zero =>
      obtain rfl : x = y := by simpa using e1
      obtain rfl : s = t := by simpa using e2
      exact hs
    | succ i => exact h2 i y t (by simpa using e1) (by simpa using e2)
/-- a drawn step as an object -/
def IsD (H : Hp) (x : V) (s : Int × Int) : Prop := ∃ u, x = .ref u ∧ H u = some (.tup [.int s.1, .int s.2]) ∧ DStep s
theorem IsD.tk {H H' : Hp} {x : V} {s : Int × Int} (t : Tk H H') (h : IsD H x s) : IsD H' x s := by
  obtain ⟨u, h1, h2, h3⟩ := h
  exact ⟨u, h1, t.1 _ _ h2, h3⟩
abbrev s__law_in_order : Stmt := top 71
abbrev N__law_in_order : List Str := ["_law_steps_here", "_law_one", "_law_pairs", "_law_pair"]
theorem sc__law_in_order : FnScope N__law_in_order ["_law_steps_here"] (C8.fnScope s__law_in_order) := C8.fnScope_by (by decide +kernel)
def sp_in_order (K : PySem.W.Frag) : Sp := fun vs H Q _ => ∃ (a : Addr) (xs : List V), vs = [.ref a] ∧ H a = some (.lst xs) ∧ 1 ≤ xs.length ∧ xs.length ≤ 6 ∧ (∀ x ∈ xs, ∃ s, IsD H x s) ∧ ∀ v H' ss, Ext H H' → At K H' (dSteps ss) v → VSteps ss → Q v H'
theorem c__law_in_order (T : Txt K mg) : C8.Cal P w K mg base 1 "_law_in_order" (sp_in_order K) [] := by
  refine calD T.d__law_in_order sc__law_in_order (fun vs H Q E ⟨a, b, e, _⟩ => by rw [e]; rfl) fun f cdv A outer s H vs Q E hr h => ⟨_, (pss_cons (ps_set (i := 2) sc__law_in_order.nd rfl (Or.inl rfl) (pe_callB (cr_sortedK hr.units) (by rfl) T.z_sorted (by decide +kernel) (pa_cons (pe_lc (own := [("_law_one", 1)]) (g := (gName 1)) rfl sc__law_in_order.nd (pi_list (pv 0)) (blkOk_by (own := [("_law_one", 1)]) (N := N__law_in_order) (sc := C8.fnScope s__law_in_order) (by decide +kernel)) (fun _ _ _ _ _ => (pg_name (i := 1) sc__law_in_order.nd rfl (Or.inl rfl))) (fun _ _ _ _ _ => pts_nil) (fun _ _ _ _ _ => (pe_tup (pa_cons (pe_op op_fdiv (pe_op op_mul (pe_ix (ix_k (K := K) rfl) (pv 1) pe_int (fun _ _ => rfl)) (pe_op op_pow pe_int pe_int)) (pe_ix (ix_k (K := K) rfl) (pv 1) pe_int (fun _ _ => rfl))) (pa_cons (pv 1) pa_nil))))) pa_nil)))
    (pss_one (ps_ret (pe_callTy call_tuple_of (by rfl) T.z_tuple (by decide +kernel) (pa_cons (pe_lc (own := [("_law_pair", 3)]) (g := (gName 3)) rfl sc__law_in_order.nd (pi_list (pv 2)) (blkOk_by (own := [("_law_pair", 3)]) (N := N__law_in_order) (sc := C8.fnScope s__law_in_order) (by decide +kernel)) (fun _ _ _ _ _ => (pg_name (i := 3) sc__law_in_order.nd rfl (Or.inl rfl))) (fun _ _ _ _ _ => pts_nil) (fun _ _ _ _ _ => (pe_ix (ix_k (K := K) rfl) (pv 3) pe_int (fun _ _ => rfl)))) pa_nil))))), ?_⟩
  obtain ⟨a, xs, rfl, ha, l1, l2, hx, q⟩ := h
  refine ⟨_, rfl, a, rfl, ⟨_, lstOf ha⟩, fun D hD => ?_⟩
  refine lcX (walk_list (xs := xs)) hD (fun i acc H' => ∀ (j : Nat) (x y : V), xs[j]? = some x → acc[j]? = some y → ∃ t u s, y = .ref t ∧ x = .ref u ∧ H' t = some (.tup [.int (keyN s), .ref u]) ∧ H' u = some (.tup [.int s.1, .int s.2]) ∧ DStep s) (fun j x y _ e => by simp at e) (fun H' e => e.sqL (lstOf ha)) (fun i x H1 H2 acc hi e h1 h2 h3 y => ?_) fun H1 acc e h1 h2 h3 => ?_
  · obtain ⟨rfl, y⟩ := y
    obtain ⟨s, u, rfl, hu, hd⟩ := hx x (List.mem_of_getElem? y)
    have hu2 := e _ _ hu
    have b2 := hd.2.2.2.1
    have b1 := hd.2.2.1
    refine ⟨rfl, _, rfl, u, _, 0, _, rfl, rfl, .inr (tupOf hu2), rfl, _, _, rfl, rfl, ⟨by decide, by decide, by decide⟩, _, _, rfl, rfl, .inr ⟨by decide, by decide⟩, _, rfl, u, _, 1, _, rfl, rfl, .inr (tupOf hu2), rfl, _, _, rfl, rfl, ⟨by omega, by omega⟩, _, rfl, (by show 2 ≤ sizeLine; decide), fun T1 hT1 => ?_⟩
    refine lcFin hD ?_ h2 (small_line (by omega)) (e.trans (Ext.new hT1)) (fun j x y ex ey => ?_)
    · rw [upd_ne (ne_of_none h1 hT1)]
      exact h1
    · have nt : ∀ {b : Addr} {xs : List V} {o : HO}, upd H2 T1 o b = some (.tup xs) → upd (upd H2 T1 o) D (.lst (acc ++ [.ref T1])) b = some (.tup xs) := fun {b xs o} h => by
        rw [upd_ne]
        · exact h
        · intro z
          rw [z, upd_ne (ne_of_none h1 hT1), h1] at h
          cases h
      by_cases hj : j < acc.length
      · rw [List.getElem?_append_left hj] at ey
        obtain ⟨t, u, s, q1, q2, q3, q4, q5⟩ := h3 j x y ex ey
        exact ⟨t, u, s, q1, q2, nt ((Ext.new hT1) _ _ q3), nt ((Ext.new hT1) _ _ q4), q5⟩
      · have hlt := (List.getElem?_eq_some_iff.mp ey).1
        rw [List.length_append] at hlt
        have ej : j = acc.length := by
          have : ([V.ref T1] : List V).length = 1 := rfl
          omega
        subst ej
        rw [List.getElem?_append_right (Nat.le_refl _), Nat.sub_self] at ey
        obtain rfl : V.ref T1 = y := by simpa using ey
        rw [h2] at ex
        rw [ex] at y
        cases y
        exact ⟨T1, u, s, rfl, rfl, nt upd_same, nt ((Ext.new hT1) _ _ hu2), hd⟩
  · have hk : ∀ y ∈ acc, ∃ s t u, y = .ref t ∧ H1 t = some (.tup [.int (keyN s), .ref u]) ∧ H1 u = some (.tup [.int s.1, .int s.2]) ∧ DStep s := fun y hy => by
      obtain ⟨j, hj⟩ := List.mem_iff_getElem?.mp hy
      have hlt := (List.getElem?_eq_some_iff.mp hj).1
      obtain ⟨t, u, s, q1, q2, q3⟩ := h3 j _ y (List.getElem?_eq_getElem (by omega)) hj
      exact ⟨s, t, u, q1, q3⟩
    let kf : V → Int × (Int × Int) := fun y => match y with
      | .ref t => (match H1 t with
        | some (.tup [.int a, .ref u]) => (match H1 u with
          | some (.tup [.int b, .int c]) => (a, (b, c))
          | _ => (0, (0, 0)))
        | _ => (0, (0, 0)))
      | _ => (0, (0, 0))
    have kf_at : ∀ {y : V} {s : Int × Int} {t u : Addr}, y = .ref t → H1 t = some (.tup [.int (keyN s), .ref u]) → H1 u = some (.tup [.int s.1, .int s.2]) → kf y = (keyN s, s) := fun {y s t u} e1 e2 e3 => by
      subst e1
      show (match H1 t with
        | some (.tup [.int a, .ref u]) => (match H1 u with
          | some (.tup [.int b, .int c]) => (a, (b, c))
          | _ => (0, (0, 0)))
        | _ => (0, (0, 0))) = (keyN s, s)
      rw [e2]
      show (match H1 u with
          | some (.tup [.int b, .int c]) => (keyN s, (b, c))
          | _ => (0, (0, 0))) = (keyN s, s)
      rw [e3]
    refine ⟨D, acc, kf, rfl, lstOf h1, fun y hy => ?_, fun y hy y' hy' he => ?_, fun ys p hs hp hpn => ?_⟩
    · obtain ⟨s, t, u, q1, q2, q3, q4⟩ := hk y hy
      rw [kf_at q1 q2 q3]
      exact ⟨t, u, q1, q2, q3⟩
    · obtain ⟨s, t, u, q1, q2, q3, q4⟩ := hk y hy
      obtain ⟨s', t', u', r1, r2, r3, r4⟩ := hk y' hy'
      rw [kf_at q1 q2 q3, kf_at r1 r2 r3] at he ⊢
      exact key_eq q4 r4 he
    · obtain ⟨ss, hsl, hsr⟩ := exists_map (xs := ys) (R := fun y s => ∃ t u, y = .ref t ∧ H1 t = some (.tup [.int (keyN s), .ref u]) ∧ H1 u = some (.tup [.int s.1, .int s.2]) ∧ DStep s) fun y hy => hk y (hp.mem_iff.mp hy)
      have hyl : ys.length = xs.length := by rw [hp.length_eq, h2]
      have e2 : Ext H1 (upd H1 p (.lst ys)) := Ext.new hpn
      refine ⟨_, rfl, p, rfl, ⟨_, lstOf upd_same⟩, fun D2 hD2 => ?_⟩
      refine lcX (walk_list (xs := ys)) hD2 (fun i acc2 H' => Ats K H' ((ss.take i).map dStep) acc2) rfl (fun H' e' => e'.sqL (lstOf upd_same)) (fun i y H3 H4 acc2 hi e' g1 g2 g3 hy => ?_) fun H3 acc2 e' g1 g2 g3 => ?_
      · obtain ⟨rfl, hy⟩ := hy
        have hsi : ss[i]? = some (ss[i]'(by omega)) := List.getElem?_eq_getElem (by omega)
        obtain ⟨t, u, rfl, q2, q3, q4⟩ := hsr i y _ hy hsi
        have e3 := e2.trans e'
        refine ⟨rfl, _, rfl, t, _, 1, _, rfl, rfl, .inr (tupOf (e3 _ _ q2)), rfl, lcFin hD2 g1 g2 (small_line (by omega)) e' ?_⟩
        rw [List.take_add_one, hsi, List.map_append]
        have t3 : Tk H4 (upd H4 D2 (.lst (acc2 ++ [.ref u]))) := Tk.upd g1 trivial
        exact Ats.snoc (g3.tk t3 (pures_of pure_step _)) (step_at (t3.sqT (tupOf (e3 _ _ q3))))
      · refine ⟨D2, acc2, rfl, .inl ⟨lstOf g1, fun T2 hT2 => q _ _ ss ((e.trans (e2.trans e')).trans (Ext.new hT2)) ⟨T2, acc2, rfl, tupOf upd_same, ?_⟩ ⟨by omega, by omega, fun s hs => ?_, fun i s t hi ht hlt => ?_⟩⟩⟩
        · rw [show ss.take ys.length = ss by rw [← hsl, List.take_length]] at g3
          exact g3.ext (Ext.new hT2)
        · obtain ⟨i, hi⟩ := List.mem_iff_getElem?.mp hs
          have hil := (List.getElem?_eq_some_iff.mp hi).1
          obtain ⟨_, _, _, _, _, q4⟩ := hsr i _ s (List.getElem?_eq_getElem (by omega)) hi
          exact dstep_v q4
        · have l1 := (List.getElem?_eq_some_iff.mp hi).1
          have l2 := (List.getElem?_eq_some_iff.mp ht).1
          obtain ⟨ta, ua, q1, q2, q3, q4⟩ := hsr i _ s (List.getElem?_eq_getElem (by omega)) hi
          obtain ⟨tb, ub, r1, r2, r3, r4⟩ := hsr (i + 1) _ t (List.getElem?_eq_getElem (by omega)) ht
          have := (List.pairwise_iff_getElem.mp hs) i (i + 1) (by omega) (by omega) (by omega)
          rw [kf_at q1 q2 q3, kf_at r1 r2 r3] at this
          exact this (key_lt q4 r4 hlt)
end
end K14
end
section
/-! The law's drawn things: steps, widths, pipes, fillings, openings. -/
namespace K14
open PySem PySem.Spec PyProof.Rows L2 RZ K14H
section
variable {P : Program} {w : World} {K : PySem.W.Frag} {mg : Str → Option Value} {base : Heap}
theorem made_d {t b : Int} (h1 : 1 ≤ t) (h2 : t ≤ 1000) (h3 : 1 ≤ b) (h4 : b ≤ 4) : DStep (t / (Int.gcd t b : Int), b / (Int.gcd t b : Int)) := by
  have g1 := gcd_pos (a := t) (b := b) (by omega)
  refine ⟨?_, ?_, ?_, ?_, ?_⟩
  · exact Int.ediv_pos_of_pos_of_dvd (by omega) (by omega) (Int.gcd_dvd_left t b)
  · exact Int.le_trans (Int.ediv_le_self _ (by omega)) h2
  · exact Int.ediv_pos_of_pos_of_dvd (by omega) (by omega) (Int.gcd_dvd_right t b)
  · exact Int.le_trans (Int.ediv_le_self _ (by omega)) h4
  · exact Int.gcd_ediv_gcd_ediv_gcd (by omega)
theorem skipV {k j : Int} {A B : Prop} (h : k ≠ j) (hb : B) : if decide (V.int k = V.int j) = true then A else B := skipIf h hb
theorem ifD {p : Prop} [Decidable p] {A B : Prop} (hA : p → A) (hB : ¬ p → B) : if decide p = true then A else B := by
  by_cases h : p
  · rw [if_pos (decide_eq_true h)]
    exact hA h
  · rw [if_neg (fun z => h (of_decide_eq_true z))]
    exact hB h
theorem ifV {k j : Int} {A B : Prop} (hA : k = j → A) (hB : k ≠ j → B) : if decide (V.int k = V.int j) = true then A else B := by
  by_cases h : k = j
  · exact takeIf h (hA h)
  · exact skipIf h (hB h)
abbrev s__law_steps : Stmt := top 72
abbrev N__law_steps : List Str := ["_law_source_here", "_law_most", "_law_wide", "_law_found", "_law_k", "_law_kind"]
theorem sc__law_steps : FnScope N__law_steps ["_law_source_here", "_law_most", "_law_wide"] (C8.fnScope s__law_steps) := C8.fnScope_by (by decide +kernel)
def sp_steps (K : PySem.W.Frag) : Sp := fun vs H Q _ => ∃ (B : Hp) (src : Addr) (most : Int), vs = [.ref src, .int most, .bl false] ∧ 1 ≤ most ∧ most ≤ 6 ∧ SrcAt B H src ∧ ∀ v H' ss, Dr B src H H' → At K H' (dSteps ss) v → VSteps ss → Q v H'
theorem c__law_steps (T : Txt K mg) : C8.Cal P w K mg base 4 "_law_steps" (sp_steps K) [] := by
  refine calD T.d__law_steps sc__law_steps (fun vs H Q E ⟨B, src, m, e, _⟩ => by rw [e]; rfl) fun f cdv A outer s H vs Q E hr h => ⟨_, (pss_cons (ps_set (i := 3) sc__law_steps.nd rfl (Or.inl rfl) (pe_lst pa_nil))
    (pss_cons (ps_for PassesOwn.never rfl (pi_range1 (by rfl) T.z_range (pa_cons (pe_op op_add pe_int (C8.pe_c (c__law_draw T) hr (by decide) (by rfl) (pa_cons (pv 0) (pa_cons (pv 1) pa_nil)))) pa_nil)) (pg_name (i := 4) sc__law_steps.nd rfl (Or.inl rfl))
      (pss_cons (ps_set (i := 5) sc__law_steps.nd rfl (Or.inl rfl) (C8.pe_c (c__law_draw T) hr (by decide) (by rfl) (pa_cons (pv 0) (pa_cons pe_int pa_nil))))
    (pss_one (ps_if (PW.pt (pw_and (pt_cmpR op_eq (pv 5) pe_int (nomark _)) (pw_and1 (pt_cmpR op_gt (pe_callB call_len_seq (by rfl) T.z_len (by decide +kernel) (pa_cons (pv 3) pa_nil)) pe_int (nomark _))))) (pss_one (ps_expr (pe_bm PySem.F.plainAttrs_list PySem.F.slot_list_append PySem.F.type_list_append mt_append (pv 3) (pa_cons (C8.pe_c (c__law_pick T) hr (by decide) (by rfl) (pa_cons (pv 0) (pa_cons (pv 3) pa_nil))) pa_nil)))) (pss_one (ps_if (PW.pt (pw_and (pt_cmpR op_eq (pv 5) pe_int (nomark _)) (pw_and1 (pt_val (pv 2))))) (pss_one (ps_expr (pe_bm PySem.F.plainAttrs_list PySem.F.slot_list_append PySem.F.type_list_append mt_append (pv 3) (pa_cons (C8.pe_c (c__law_made T) hr (by decide) (by rfl) (pa_cons (pe_op op_add pe_int (C8.pe_c (c__law_draw T) hr (by decide) (by rfl) (pa_cons (pv 0) (pa_cons (pe_op op_pow pe_int pe_int) pa_nil)))) (pa_cons (pe_op op_add pe_int (C8.pe_c (c__law_draw T) hr (by decide) (by rfl) (pa_cons (pv 0) (pa_cons pe_int pa_nil)))) pa_nil))) pa_nil)))) (pss_one (ps_if (pt_cmpR op_eq (pv 5) pe_int (nomark _)) (pss_one (ps_expr (pe_bm PySem.F.plainAttrs_list PySem.F.slot_list_append PySem.F.type_list_append mt_append (pv 3) (pa_cons (C8.pe_c (c__law_made T) hr (by decide) (by rfl) (pa_cons (pe_op op_add pe_int (C8.pe_c (c__law_draw T) hr (by decide) (by rfl) (pa_cons (pv 0) (pa_cons pe_int pa_nil)))) (pa_cons (pe_op op_add pe_int (C8.pe_c (c__law_draw T) hr (by decide) (by rfl) (pa_cons (pv 0) (pa_cons pe_int pa_nil)))) pa_nil))) pa_nil)))) (pss_one (ps_expr (pe_bm PySem.F.plainAttrs_list PySem.F.slot_list_append PySem.F.type_list_append mt_append (pv 3) (pa_cons (pe_tup (pa_cons (pe_op op_add pe_int (C8.pe_c (c__law_draw T) hr (by decide) (by rfl) (pa_cons (pv 0) (pa_cons pe_int pa_nil)))) (pa_cons pe_int pa_nil))) pa_nil))))))))))))
    (pss_one (ps_ret (C8.pe_c (c__law_in_order T) hr (by decide) (by rfl) (pa_cons (pv 3) pa_nil)))))), ?_⟩
  obtain ⟨B, src, most, rfl, m1, m2, hS, q⟩ := h
  refine ⟨(by show 0 ≤ sizeLine; decide), fun L hL => ?_⟩
  have hLs := src_ne hS hL
  have d0 : Dr B src H (upd H L (.lst [])) := (Dr.refl hS).ext (Ext.new hL)
  refine ⟨_, rfl, _, rfl, B, src, most, rfl, by omega, by omega, d0.s, fun r H1 r0 r1 s1 k1 t1 => ?_⟩
  have d1 := d0.draw s1 k1 t1
  have hL1 : H1 L = some (.lst []) := k1 _ _ upd_same (by simpa using hLs)
  refine ⟨_, _, rfl, rfl, _, rfl, by omega, by omega, ?_⟩
  refine for_it (walk_range (lo := 0) (n := (1 + r).toNat)) (fun i σ H' => Dr B src H H' ∧ ∃ (xs : List V) (z1 z2 : Option V), σ = [some (.ref src), some (.int most), some (.bl false), some (.ref L), z1, z2] ∧ H' L = some (.lst xs) ∧ xs.length = i ∧ ∀ x ∈ xs, ∃ s, IsD H' x s) ⟨d1, [], none, none, rfl, hL1, rfl, fun x h => absurd h (by simp)⟩ (fun _ _ _ _ _ => trivial) (fun i x σ H2 H3 hi ⟨d, xs, z1, z2, es, hl, hlen, hx⟩ hy => ?_) fun σ H2 ⟨d, xs, z1, z2, es, hl, hlen, hx⟩ => ?_
  · obtain ⟨rfl, rfl⟩ := hy
    subst es
    have hi6 : i < 6 := by omega
    refine ⟨_, rfl, B, src, 5, rfl, by decide, by decide, d.s, fun kd H4 k0 k1 s4 k4 t4 => ?_⟩
    have d4 := d.draw s4 k4 t4
    have hl4 : H4 L = some (.lst xs) := k4 _ _ hl (by simpa using hLs)
    have hx4 : ∀ x ∈ xs, ∃ s, IsD H4 x s := fun x h => by
      obtain ⟨s, hs⟩ := hx x h
      exact ⟨s, hs.tk t4⟩
    -- what is appended
    have app : ∀ (H5 : Hp) (v : V), Dr B src H H5 → H5 L = some (.lst xs) → (∃ s, IsD H5 v s) → (∀ x ∈ xs, ∃ s, IsD H5 x s) → ∃ (l : Addr) (ys : List V) (y : V), V.ref L = .ref l ∧ [v] = [y] ∧ H5 l = some (.lst ys) ∧ ys.length < sizeLine ∧ (Dr B src H (upd H5 l (.lst (ys ++ [y]))) ∧ ∃ (xs : List V) (z1 z2 : Option V), ([some (V.ref src), some (.int most), some (.bl false), some (.ref L), some (.int (0 + (i : Int))), some (.int kd)] : L2.St) = [some (.ref src), some (.int most), some (.bl false), some (.ref L), z1, z2] ∧ (upd H5 l (.lst (ys ++ [y]))) L = some (.lst xs) ∧ xs.length = i + 1 ∧ ∀ x ∈ xs, ∃ s, IsD (upd H5 l (.lst (ys ++ [y]))) x s) := by
      intro H5 v d5 hl5 hv hx5
      refine ⟨L, xs, v, rfl, rfl, hl5, small_line (by omega), d5.lst hS hL hl5, xs ++ [v], _, _, rfl, upd_same, (by rw [List.length_append, hlen]; rfl), fun x hm => ?_⟩
      have t6 : Tk H5 (upd H5 L (.lst (xs ++ [v]))) := Tk.upd hl5 trivial
      rcases List.mem_append.mp hm with h | h
      · obtain ⟨s, hs⟩ := hx5 x h
        exact ⟨s, hs.tk t6⟩
      · rw [List.mem_singleton.mp h]
        obtain ⟨s, hs⟩ := hv
        exact ⟨s, hs.tk t6⟩
    refine ⟨_, rfl, rfl, _, rfl, ?_⟩
    refine ifV (fun e => ⟨_, rfl, L, xs, rfl, .inl (lstOf hl4), _, _, rfl, rfl, _, rfl, ifD (fun hp => ?_) fun hp => ?_⟩) fun e => ?_
    · refine ⟨_, rfl, .inl ⟨rfl, xs, lstOf hl4⟩, _, rfl, _, rfl, B, src, L, xs, rfl, d4.s, hl4, hLs, by omega, by omega, fun v H5 hv d5 => ?_⟩
      obtain ⟨s, hs⟩ := hx4 v hv
      exact app H5 v (d4.trans d5) (d5.at hl4 hLs) ⟨s, hs.tk d5.tk⟩ fun x h => by
        obtain ⟨s, hs⟩ := hx4 x h
        exact ⟨s, hs.tk d5.tk⟩
    all_goals
      refine ⟨_, rfl, rfl, _, rfl, ifV (fun e1 => ⟨_, rfl, _, rfl, ?_⟩) fun e1 => ?_⟩
      all_goals
        refine ⟨_, rfl, rfl, _, rfl, ifV (fun e2 => ?_) fun e2 => ?_⟩
        · refine ⟨_, rfl, .inl ⟨rfl, xs, lstOf hl4⟩, _, rfl, B, src, 12, rfl, by decide, by decide, d4.s, fun r5 H5 a0 a1 s5 k5 t5 => ⟨_, _, rfl, rfl, _, rfl, B, src, 4, rfl, by decide, by decide, s5, fun r6 H6 b0 b1 s6 k6 t6 => ⟨_, _, rfl, rfl, ?_⟩⟩⟩
          refine ⟨_, _, rfl, by omega, by omega, fun p hp => ?_⟩
          have d6 := (d4.draw s5 k5 t5).draw s6 k6 t6
          have hl6 : H6 L = some (.lst xs) := k6 _ _ (k5 _ _ hl4 (by simpa using hLs)) (by simpa using hLs)
          refine app _ _ (d6.ext (Ext.new hp)) ((Ext.new hp) _ _ hl6) ⟨_, p, rfl, upd_same, made_d (by omega) (by omega) (by omega) (by omega)⟩ fun x h => ?_
          obtain ⟨s, hs⟩ := hx4 x h
          exact ⟨s, hs.tk ((t5.trans t6).trans (Ext.new hp).tk)⟩
        · refine ⟨_, rfl, .inl ⟨rfl, xs, lstOf hl4⟩, _, rfl, B, src, 5, rfl, by decide, by decide, d4.s, fun r5 H5 a0 a1 s5 k5 t5 => ⟨_, _, rfl, rfl, (by show 2 ≤ sizeLine; decide), fun p hp => ?_⟩⟩
          have d5 := d4.draw s5 k5 t5
          have hl5 : H5 L = some (.lst xs) := k5 _ _ hl4 (by simpa using hLs)
          refine app _ _ (d5.ext (Ext.new hp)) ((Ext.new hp) _ _ hl5) ⟨(1 + r5, 1), p, rfl, upd_same, ⟨by show 1 ≤ 1 + r5; omega, by show 1 + r5 ≤ 1000; omega, by show (1 : Int) ≤ 1; decide, by show (1 : Int) ≤ 4; decide, by simp⟩⟩ fun x h => ?_
          obtain ⟨s, hs⟩ := hx4 x h
          exact ⟨s, hs.tk (t5.trans (Ext.new hp).tk)⟩
  · subst es
    refine ⟨_, rfl, L, xs, rfl, hl, by omega, by omega, hx, fun v H3 ss e hv hs => q v H3 ss (d.ext e) hv hs⟩
/-- what a loop that appends drawn ints keeps -/
structure LpI (B : Hp) (src L : Addr) (H : Hp) (C : Int → Prop) (i : Nat) (H' : Hp) (ys : List Int) : Prop where
  d : Dr B src H H'
  l : H' L = some (.lst (ys.map .int))
  len : ys.length = i
  all : ∀ y ∈ ys, C y
theorem LpI.app {B H H' H2 : Hp} {src L : Addr} {C : Int → Prop} {i : Nat} {ys : List Int} {y : Int} (p : LpI B src L H C i H' ys) (hS : SrcAt B H src) (hL : H L = none) (d : Dr B src H' H2) (hy : C y) : LpI B src L H C (i + 1) (upd H2 L (.lst (ys.map V.int ++ [.int y]))) (ys ++ [y]) := by
  have hLs := src_ne hS hL
  have hl2 : H2 L = some (.lst (ys.map .int)) := d.at p.l hLs
  refine ⟨(p.d.trans d).lst hS hL hl2, ?_, (by rw [List.length_append, p.len]; rfl), fun z hz => ?_⟩
  · rw [upd_same, List.map_append] <;> rfl
  · rcases List.mem_append.mp hz with h | h
    · exact p.all z h
    · rw [List.mem_singleton.mp h]
      exact hy
abbrev s__law_widths : Stmt := top 74
abbrev N__law_widths : List Str := ["_law_source_here", "_law_many", "_law_seas", "_law_kind", "_law_alike", "_law_found", "_law_k"]
theorem sc__law_widths : FnScope N__law_widths ["_law_source_here", "_law_many", "_law_seas"] (C8.fnScope s__law_widths) := C8.fnScope_by (by decide +kernel)
def sp_lwidths (K : PySem.W.Frag) : Sp := fun vs H Q _ => ∃ (B : Hp) (src : Addr) (n : Nat), vs = [.ref src, .int (n : Int), .bl true] ∧ n ≤ 4 ∧ SrcAt B H src ∧ ∀ a ws H', ws.length = n → (∀ x ∈ ws, 0 ≤ x ∧ x ≤ 12) → Dr B src H H' → Is K H' a ws → Q (.ref a) H'
theorem c__law_widths (T : Txt K mg) : C8.Cal P w K mg base 3 "_law_widths" (sp_lwidths K) [] := by
  refine calD T.d__law_widths sc__law_widths (fun vs H Q E ⟨B, src, m, e, _⟩ => by rw [e]; rfl) fun f cdv A outer s H vs Q E hr h => ⟨_, (pss_cons (ps_set (i := 3) sc__law_widths.nd rfl (Or.inl rfl) (C8.pe_c (c__law_draw T) hr (by decide) (by rfl) (pa_cons (pv 0) (pa_cons pe_int pa_nil))))
    (pss_cons (ps_set (i := 4) sc__law_widths.nd rfl (Or.inl rfl) (pe_op op_add pe_int (C8.pe_c (c__law_draw T) hr (by decide) (by rfl) (pa_cons (pv 0) (pa_cons pe_int pa_nil)))))
    (pss_cons (ps_set (i := 5) sc__law_widths.nd rfl (Or.inl rfl) (pe_lst pa_nil))
    (pss_cons (ps_for PassesOwn.never rfl (pi_range1 (by rfl) T.z_range (pa_cons (pv 1) pa_nil)) (pg_name (i := 6) sc__law_widths.nd rfl (Or.inl rfl))
      (pss_one (ps_if (PW.pt (pw_and (pt_val (pv 2)) (pw_and1 (pt_cmpR op_eq (C8.pe_c (c__law_draw T) hr (by decide) (by rfl) (pa_cons (pv 0) (pa_cons pe_int pa_nil))) pe_int (nomark _))))) (pss_one (ps_expr (pe_bm PySem.F.plainAttrs_list PySem.F.slot_list_append PySem.F.type_list_append mt_append (pv 5) (pa_cons pe_int pa_nil)))) (pss_one (ps_if (pt_cmpR op_eq (pv 3) pe_int (nomark _)) (pss_one (ps_expr (pe_bm PySem.F.plainAttrs_list PySem.F.slot_list_append PySem.F.type_list_append mt_append (pv 5) (pa_cons (pe_op op_add pe_int (C8.pe_c (c__law_draw T) hr (by decide) (by rfl) (pa_cons (pv 0) (pa_cons pe_int pa_nil)))) pa_nil)))) (pss_one (ps_if (pt_cmpR op_eq (pv 3) pe_int (nomark _)) (pss_one (ps_expr (pe_bm PySem.F.plainAttrs_list PySem.F.slot_list_append PySem.F.type_list_append mt_append (pv 5) (pa_cons (pe_op op_add pe_int (C8.pe_c (c__law_draw T) hr (by decide) (by rfl) (pa_cons (pv 0) (pa_cons pe_int pa_nil)))) pa_nil)))) (pss_one (ps_expr (pe_bm PySem.F.plainAttrs_list PySem.F.slot_list_append PySem.F.type_list_append mt_append (pv 5) (pa_cons (pv 4) pa_nil)))))))))))
    (pss_one (ps_ret (pe_callTy call_tuple_of (by rfl) T.z_tuple (by decide +kernel) (pa_cons (pv 5) pa_nil)))))))), ?_⟩
  obtain ⟨B, src, n, rfl, hn, hS, q⟩ := h
  refine ⟨_, rfl, B, src, 4, rfl, by decide, by decide, hS, fun kd H1 a0 a1 s1 k1 t1 => ?_⟩
  refine ⟨_, rfl, B, src, 3, rfl, by decide, by decide, s1, fun r2 H2 b0 b1 s2 k2 t2 => ⟨_, _, rfl, rfl, ?_⟩⟩
  have d2 := (Dr.refl hS).draw s1 k1 t1 |>.draw s2 k2 t2
  refine ⟨(by show 0 ≤ sizeLine; decide), fun L hL => ⟨_, rfl, (n : Int), rfl, by omega, by omega, ?_⟩⟩
  have ev : ((n : Int)).toNat = n := Int.toNat_natCast n
  refine for_it (walk_range (lo := 0) (n := ((n : Int)).toNat)) (fun i σ H' => ∃ ys z, LpI B src L H2 (fun x => 0 ≤ x ∧ x ≤ 12) i H' ys ∧ σ = [some (.ref src), some (.int n), some (.bl true), some (.int kd), some (.int (1 + r2)), some (.ref L), z]) ⟨[], none, ⟨(Dr.refl s2).ext (Ext.new hL), upd_same, rfl, fun y h => absurd h (by simp)⟩, rfl⟩ (fun _ _ _ _ _ => trivial) (fun i x σ H3 H4 hi ⟨ys, z, p, es⟩ hy => ?_) fun σ H3 ⟨ys, z, p, es⟩ => ?_
  · obtain ⟨rfl, rfl⟩ := hy
    subst es
    have hi' : i < 1000 := by omega
    have fin : ∀ (H5 : Hp) (y : Int), Dr B src H4 H5 → (0 ≤ y ∧ y ≤ 12) → ∃ (l : Addr) (zs : List V) (v : V), V.ref L = .ref l ∧ [V.int y] = [v] ∧ H5 l = some (.lst zs) ∧ zs.length < sizeLine ∧ ∃ ys z, LpI B src L H2 (fun x => 0 ≤ x ∧ x ≤ 12) (i + 1) (upd H5 l (.lst (zs ++ [v]))) ys ∧ ([some (V.ref src), some (.int n), some (.bl true), some (.int kd), some (.int (1 + r2)), some (.ref L), some (.int (0 + (i : Int)))] : L2.St) = [some (.ref src), some (.int n), some (.bl true), some (.int kd), some (.int (1 + r2)), some (.ref L), z] :=
      fun H5 y d5 hy => ⟨L, ys.map .int, .int y, rfl, rfl, d5.at p.l (src_ne s2 hL), small_line (by rw [List.length_map, p.len]; exact hi'), ys ++ [y], _, p.app s2 hL d5 hy, rfl⟩
    have tyL : ∀ (H5 : Hp), Dr B src H4 H5 → ∃ xs, SqL K H5 L xs := fun H5 d5 => ⟨_, lstOf (d5.at p.l (src_ne s2 hL))⟩
    have r0 := Dr.refl p.d.s
    refine ⟨_, rfl, _, rfl, _, rfl, B, src, 5, rfl, by decide, by decide, p.d.s, fun r5 H5 c0 c1 s5 k5 t5 => ⟨rfl, _, rfl, ?_⟩⟩
    have d5 : Dr B src H4 H5 := ⟨k5, t5, s5⟩
    refine ifV (fun e => ⟨_, rfl, .inl ⟨rfl, tyL _ d5⟩, fin _ _ d5 (by decide)⟩) fun e => ⟨_, rfl, rfl, _, rfl, ifV (fun e => ?_) fun e => ⟨_, rfl, rfl, _, rfl, ifV (fun e => ?_) fun e => ?_⟩⟩
    · exact ⟨_, rfl, .inl ⟨rfl, tyL _ d5⟩, _, rfl, B, src, 12, rfl, by decide, by decide, s5, fun r6 H6 e0 e1 s6 k6 t6 => ⟨_, _, rfl, rfl, fin _ _ (d5.draw s6 k6 t6) ⟨by omega, by omega⟩⟩⟩
    · exact ⟨_, rfl, .inl ⟨rfl, tyL _ d5⟩, _, rfl, B, src, 3, rfl, by decide, by decide, s5, fun r6 H6 e0 e1 s6 k6 t6 => ⟨_, _, rfl, rfl, fin _ _ (d5.draw s6 k6 t6) ⟨by omega, by omega⟩⟩⟩
    · exact ⟨_, rfl, .inl ⟨rfl, tyL _ d5⟩, _, rfl, fin _ _ d5 ⟨by omega, by omega⟩⟩
  · subst es
    rw [ev] at p
    refine ⟨_, rfl, L, _, rfl, .inl ⟨lstOf p.l, fun t ht => q t ys _ p.len p.all ((d2.trans p.d).ext (Ext.new ht)) (tupOf upd_same)⟩⟩
abbrev s__law_pipe : Stmt := top 75
abbrev N__law_pipe : List Str := ["_law_source_here", "_law_vessels", "_law_most", "_law_wide", "_law_other"]
theorem sc__law_pipe : FnScope N__law_pipe ["_law_source_here", "_law_vessels", "_law_most", "_law_wide"] (C8.fnScope s__law_pipe) := C8.fnScope_by (by decide +kernel)
def sp_lpipe (K : PySem.W.Frag) : Sp := fun vs H Q _ => ∃ (B : Hp) (src : Addr) (n : Nat), vs = [.ref src, .int (n : Int), .int 3, .bl false] ∧ 2 ≤ n ∧ n ≤ 12 ∧ SrcAt B H src ∧ ∀ v p H', VPipe n p → Dr B src H H' → At K H' (dPipe p) v → Q v H'
theorem c__law_pipe (T : Txt K mg) : C8.Cal P w K mg base 5 "_law_pipe" (sp_lpipe K) [] := by
  refine calD T.d__law_pipe sc__law_pipe (fun vs H Q E ⟨B, src, m, e, _⟩ => by rw [e]; rfl) fun f cdv A outer s H vs Q E hr h => ⟨_, (pss_cons (ps_set (i := 4) sc__law_pipe.nd rfl (Or.inl rfl) (pe_op op_add pe_int (C8.pe_c (c__law_draw T) hr (by decide) (by rfl) (pa_cons (pv 0) (pa_cons (pe_op op_sub (pv 1) pe_int) pa_nil)))))
    (pss_one (ps_ret (pe_tup (pa_cons (C8.pe_c (c__law_draw T) hr (by decide) (by rfl) (pa_cons (pv 0) (pa_cons (pv 4) pa_nil))) (pa_cons (pv 4) (pa_cons (C8.pe_c (c__law_steps T) hr (by decide) (by rfl) (pa_cons (pv 0) (pa_cons (pv 2) (pa_cons (pv 3) pa_nil)))) pa_nil))))))), ?_⟩
  obtain ⟨B, src, n, rfl, hn, hn2, hS, q⟩ := h
  refine ⟨_, rfl, _, rfl, _, _, rfl, rfl, B, src, _, rfl, by omega, by omega, hS, fun r1 H1 a0 a1 s1 k1 t1 => ⟨_, _, rfl, rfl, ?_⟩⟩
  refine ⟨_, rfl, _, rfl, B, src, _, rfl, by omega, by omega, s1, fun r2 H2 b0 b1 s2 k2 t2 => ⟨_, rfl, _, rfl, _, rfl, _, rfl, B, src, 3, rfl, by decide, by decide, s2, fun v H3 ss d3 hv hs => ?_⟩⟩
  have d := ((Dr.refl hS).draw s1 k1 t1 |>.draw s2 k2 t2).trans d3
  refine ⟨(by show 3 ≤ sizeLine; decide), fun T1 hT1 => q _ ⟨r2.toNat, (1 + r1).toNat, ss⟩ _ ⟨by show r2.toNat < (1 + r1).toNat; omega, by show (1 + r1).toNat < n; omega, hs⟩ (d.ext (Ext.new hT1)) ?_⟩
  refine ⟨T1, _, rfl, tupOf upd_same, _, _, rfl, ?_, _, _, rfl, ?_, _, _, rfl, hv.ext (Ext.new hT1), rfl⟩
  · show V.int r2 = V.int ((r2.toNat : Nat) : Int)
    rw [Int.toNat_of_nonneg b0]
  · show V.int (1 + r1) = V.int (((1 + r1).toNat : Nat) : Int)
    rw [Int.toNat_of_nonneg (by omega)]
end
end K14
end
section
/-! The law's drawn things: pipes, fillings, openings, plans. -/
namespace K14
open PySem PySem.Spec PyProof.Rows L2 RZ K14H
section
variable {P : Program} {w : World} {K : PySem.W.Frag} {mg : Str → Option Value} {base : Heap}
abbrev s__law_pipes : Stmt := top 76
abbrev N__law_pipes : List Str := ["_law_source_here", "_law_vessels", "_law_many", "_law_most", "_law_wide", "_law_found", "_law_k", "_law_kind", "_law_last"]
theorem sc__law_pipes : FnScope N__law_pipes ["_law_source_here", "_law_vessels", "_law_many", "_law_most", "_law_wide"] (C8.fnScope s__law_pipes) := C8.fnScope_by (by decide +kernel)
def sp_lpipes (K : PySem.W.Frag) : Sp := fun vs H Q _ => ∃ (B : Hp) (src : Addr) (n many : Nat), vs = [.ref src, .int (n : Int), .int (many : Int), .int 3, .bl false] ∧ 1 ≤ n ∧ n ≤ 12 ∧ many ≤ 36 ∧ SrcAt B H src ∧ ∀ (v : V) (ps : List Pipe) (H' : Hp), ps.length ≤ many → (∀ p ∈ ps, VPipe n p) → Dr B src H H' → At K H' (.tup (ps.map dPipe)) v → Q v H'
theorem c__law_pipes (T : Txt K mg) : C8.Cal P w K mg base 6 "_law_pipes" (sp_lpipes K) [] := by
  refine calD T.d__law_pipes sc__law_pipes (fun vs H Q E ⟨B, src, n, m, e, _⟩ => by rw [e]; rfl) fun f cdv A outer s H vs Q E hr h => ⟨_, (pss_cons (ps_set (i := 5) sc__law_pipes.nd rfl (Or.inl rfl) (pe_lst pa_nil))
    (pss_cons (ps_for PassesOwn.never rfl (pi_range1 (by rfl) T.z_range (pa_cons (pv 2) pa_nil)) (pg_name (i := 6) sc__law_pipes.nd rfl (Or.inl rfl))
      (pss_one (ps_if (pt_cmpR op_gt (pv 1) pe_int (nomark _)) (pss_cons (ps_set (i := 7) sc__law_pipes.nd rfl (Or.inl rfl) (C8.pe_c (c__law_draw T) hr (by decide) (by rfl) (pa_cons (pv 0) (pa_cons pe_int pa_nil))))
    (pss_one (ps_if (PW.pt (pw_and (pt_cmpR op_eq (pv 7) pe_int (nomark _)) (pw_and1 (pt_cmpR op_gt (pv 6) pe_int (nomark _))))) (pss_one (ps_expr (pe_bm PySem.F.plainAttrs_list PySem.F.slot_list_append PySem.F.type_list_append mt_append (pv 5) (pa_cons (C8.pe_c (c__law_pick T) hr (by decide) (by rfl) (pa_cons (pv 0) (pa_cons (pv 5) pa_nil))) pa_nil)))) (pss_one (ps_if (PW.pt (pw_and (pt_cmpR op_eq (pv 7) pe_int (nomark _)) (pw_and1 (pt_cmpR op_gt (pv 6) pe_int (nomark _))))) (pss_cons (ps_set (i := 8) sc__law_pipes.nd rfl (Or.inl rfl) (C8.pe_c (c__law_pick T) hr (by decide) (by rfl) (pa_cons (pv 0) (pa_cons (pv 5) pa_nil))))
    (pss_one (ps_expr (pe_bm PySem.F.plainAttrs_list PySem.F.slot_list_append PySem.F.type_list_append mt_append (pv 5) (pa_cons (pe_tup (pa_cons (pe_ix (ix_k (K := K) rfl) (pv 8) pe_int (fun _ _ => rfl)) (pa_cons (pe_ix (ix_k (K := K) rfl) (pv 8) pe_int (fun _ _ => rfl)) (pa_cons (C8.pe_c (c__law_steps T) hr (by decide) (by rfl) (pa_cons (pv 0) (pa_cons (pv 3) (pa_cons (pv 4) pa_nil)))) pa_nil)))) pa_nil))))) (pss_one (ps_expr (pe_bm PySem.F.plainAttrs_list PySem.F.slot_list_append PySem.F.type_list_append mt_append (pv 5) (pa_cons (C8.pe_c (c__law_pipe T) hr (by decide) (by rfl) (pa_cons (pv 0) (pa_cons (pv 1) (pa_cons (pv 3) (pa_cons (pv 4) pa_nil))))) pa_nil))))))))) pss_nil)))
    (pss_one (ps_ret (pe_callTy call_tuple_of (by rfl) T.z_tuple (by decide +kernel) (pa_cons (pv 5) pa_nil)))))), ?_⟩
  obtain ⟨B, src, n, many, rfl, hn, hn2, hm, hS, q⟩ := h
  refine ⟨(by show 0 ≤ sizeLine; decide), fun L hL => ⟨_, rfl, (many : Int), rfl, by omega, by omega, ?_⟩⟩
  have hLs := src_ne hS hL
  have ev : ((many : Int)).toNat = many := Int.toNat_natCast many
  refine for_it (walk_range (lo := 0) (n := ((many : Int)).toNat)) (fun i σ H' => ∃ (xs : List V) (ps : List Pipe) (z1 z2 z3 : Option V), Dr B src H H' ∧ H' L = some (.lst xs) ∧ Ats K H' (ps.map dPipe) xs ∧ (∀ p ∈ ps, VPipe n p) ∧ ps.length ≤ i ∧ (1 < n → ps.length = i) ∧ σ = [some (.ref src), some (.int n), some (.int many), some (.int 3), some (.bl false), some (.ref L), z1, z2, z3]) ⟨[], [], none, none, none, (Dr.refl hS).ext (Ext.new hL), upd_same, rfl, fun p h => absurd h (by simp), Nat.le_refl _, fun _ => rfl, rfl⟩ (fun _ _ _ _ _ => trivial)
    (fun i x σ H1 H2 hi ⟨xs, ps, z1, z2, z3, d, hl, hps, hv, hlen, hlen2, es⟩ hy => ?_) fun σ H1 ⟨xs, ps, z1, z2, z3, d, hl, hps, hv, hlen, hlen2, es⟩ => ?_
  · obtain ⟨rfl, rfl⟩ := hy
    subst es
    have hxl : xs.length = ps.length := by rw [hps.len, List.length_map]
    refine ⟨_, rfl, _, _, rfl, rfl, _, rfl, ifD (fun h1 => ?_) fun h1 => ⟨xs, ps, _, _, _, d, hl, hps, hv, by omega, fun h => absurd h (by omega), rfl⟩⟩
    have hn1 : 1 < n := by omega
    have fin : ∀ (H5 : Hp) (v : V) (p : Pipe) (z2 z3 : Option V), Dr B src H2 H5 → VPipe n p → At K H5 (dPipe p) v → ∃ (l : Addr) (zs : List V) (u : V), V.ref L = .ref l ∧ [v] = [u] ∧ H5 l = some (.lst zs) ∧ zs.length < sizeLine ∧ ∃ (xs : List V) (ps : List Pipe) (z1 z2' z3' : Option V), Dr B src H (upd H5 l (.lst (zs ++ [u]))) ∧ (upd H5 l (.lst (zs ++ [u]))) L = some (.lst xs) ∧ Ats K (upd H5 l (.lst (zs ++ [u]))) (ps.map dPipe) xs ∧ (∀ p ∈ ps, VPipe n p) ∧ ps.length ≤ i + 1 ∧ (1 < n → ps.length = i + 1) ∧ ([some (V.ref src), some (.int n), some (.int many), some (.int 3), some (.bl false), some (.ref L), some (.int (0 + (i : Int))), z2, z3] : L2.St) = [some (.ref src), some (.int n), some (.int many), some (.int 3), some (.bl false), some (.ref L), z1, z2', z3'] := by
      intro H5 v p z2 z3 d5 hp hat
      have hl5 := d5.at hl hLs
      have t6 : Tk H5 (upd H5 L (.lst (xs ++ [v]))) := Tk.upd hl5 trivial
      refine ⟨L, xs, v, rfl, rfl, hl5, small_line (by omega), xs ++ [v], ps ++ [p], _, z2, z3, (d.trans d5).lst hS hL hl5, upd_same, ?_, fun r hr => ?_, by rw [List.length_append]; show _ + 1 ≤ _; omega, fun _ => by rw [List.length_append, hlen2 hn1]; rfl, rfl⟩
      · rw [List.map_append]
        exact Ats.snoc (hps.tk (d5.tk.trans t6) (pures_of pure_pipe _)) (hat.tk t6 (pure_pipe p))
      · rcases List.mem_append.mp hr with h | h
        · exact hv r h
        · rw [List.mem_singleton.mp h]
          exact hp
    have tyL : ∀ (H5 : Hp), Dr B src H2 H5 → ∃ xs, SqL K H5 L xs := fun H5 d5 => ⟨_, lstOf (d5.at hl hLs)⟩
    refine ⟨_, rfl, B, src, 6, rfl, by decide, by decide, d.s, fun kd H5 c0 c1 s5 k5 t5 => ?_⟩
    have d5 : Dr B src H2 H5 := ⟨k5, t5, s5⟩
    have hl5 := d5.at hl hLs
    have pick : ∀ (v : V), v ∈ xs → ∃ p, VPipe n p ∧ At K H5 (dPipe p) v := fun v hm => by
      obtain ⟨j, hj⟩ := List.mem_iff_getElem?.mp hm
      obtain ⟨dd, h1, h2⟩ := (hps.tk d5.tk (pures_of pure_pipe _)).get hj
      rw [List.getElem?_map] at h1
      cases ep : ps[j]? with
      | none => rw [ep] at h1; cases h1
      | some p =>
        rw [ep] at h1
        obtain rfl : dPipe p = dd := Option.some.inj h1
        exact ⟨p, hv p (List.mem_of_getElem? ep), h2⟩
    refine ⟨_, rfl, rfl, _, rfl, ifV (fun e => ⟨_, rfl, _, _, rfl, rfl, _, rfl, ifD (fun hp => ?_) fun hp => ?_⟩) fun e => ?_⟩
    · have hp' : 0 < i := by omega
      refine ⟨_, rfl, .inl ⟨rfl, tyL _ d5⟩, _, rfl, _, rfl, B, src, L, xs, rfl, s5, hl5, hLs, by have := hlen2 hn1; omega, by omega, fun v H6 hvx d6 => ?_⟩
      obtain ⟨p, hp, hat⟩ := pick v hvx
      exact fin H6 v p _ _ (d5.trans d6) hp (hat.tk d6.tk (pure_pipe p))
    all_goals
      refine ⟨_, rfl, rfl, _, rfl, ifV (fun e1 => ⟨_, rfl, _, _, rfl, rfl, _, rfl, ifD (fun hp => ?_) fun hp => ?_⟩) fun e1 => ?_⟩
      · have hp' : 0 < i := by omega
        refine ⟨_, rfl, _, rfl, B, src, L, xs, rfl, s5, hl5, hLs, by have := hlen2 hn1; omega, by omega, fun v H6 hvx d6 => ?_⟩
        obtain ⟨p, hp, hat⟩ := pick v hvx
        have hat6 := hat.tk d6.tk (pure_pipe p)
        obtain ⟨a, u, rfl, ha, hu⟩ := at_pipe hat6
        refine ⟨_, rfl, .inl ⟨rfl, tyL _ (d5.trans d6)⟩, _, rfl, a, _, 0, _, rfl, rfl, .inr ha, rfl, _, rfl, a, _, 1, _, rfl, rfl, .inr ha, rfl, _, rfl, _, rfl, _, rfl, B, src, 3, rfl, by decide, by decide, d6.s, fun v7 H7 ss d7 hv7 hs7 => ⟨(by show 3 ≤ sizeLine; decide), fun T1 hT1 => ?_⟩⟩
        refine fin _ _ ⟨p.a, p.b, ss⟩ _ _ (((d5.trans d6).trans d7).ext (Ext.new hT1)) ⟨hp.1, hp.2.1, hs7⟩ ?_
        exact ⟨T1, _, rfl, tupOf upd_same, _, _, rfl, rfl, _, _, rfl, rfl, _, _, rfl, hv7.ext (Ext.new hT1), rfl⟩
      all_goals
        refine ⟨_, rfl, .inl ⟨rfl, tyL _ d5⟩, _, rfl, _, rfl, _, rfl, _, rfl, B, src, n, rfl, by omega, hn2, s5, fun v p H6 hp d6 hat => fin H6 v p _ _ (d5.trans d6) hp hat⟩
  · subst es
    rw [ev] at hlen
    refine ⟨_, rfl, L, xs, rfl, .inl ⟨lstOf hl, fun t ht => q _ ps _ hlen hv (d.ext (Ext.new ht)) ⟨t, xs, rfl, tupOf upd_same, hps.ext (Ext.new ht)⟩⟩⟩
abbrev s__law_water : Stmt := top 77
abbrev N__law_water : List Str := ["_law_source_here", "_law_high", "_law_kind"]
theorem sc__law_water : FnScope N__law_water ["_law_source_here", "_law_high"] (C8.fnScope s__law_water) := C8.fnScope_by (by decide +kernel)
def sp_water : Sp := fun vs H Q _ => ∃ (B : Hp) (src : Addr), vs = [.ref src, .int 15] ∧ SrcAt B H src ∧ ∀ (r : Int) H', Dr B src H H' → Q (.int r) H'
theorem c__law_water (T : Txt K mg) : C8.Cal P w K mg base 3 "_law_water" sp_water [] := by
  refine calD T.d__law_water sc__law_water (fun vs H Q E ⟨B, src, e, _⟩ => by rw [e]; rfl) fun f cdv A outer s H vs Q E hr h => ⟨_, (pss_cons (ps_set (i := 2) sc__law_water.nd rfl (Or.inl rfl) (C8.pe_c (c__law_draw T) hr (by decide) (by rfl) (pa_cons (pv 0) (pa_cons pe_int pa_nil))))
    (pss_cons (ps_if (pt_cmpR op_eq (pv 2) pe_int (nomark _)) (pss_one (ps_ret (pe_op op_sub (C8.pe_c (c__law_draw T) hr (by decide) (by rfl) (pa_cons (pv 0) (pa_cons (pe_op op_add (pe_op op_mul pe_int (pe_op op_pow pe_int pe_int)) pe_int) pa_nil))) (pe_op op_pow pe_int pe_int)))) pss_nil)
    (pss_cons (ps_if (pt_cmpR op_eq (pv 2) pe_int (nomark _)) (pss_one (ps_ret (pe_op op_sub (pe_op op_pow pe_int pe_int) (C8.pe_c (c__law_draw T) hr (by decide) (by rfl) (pa_cons (pv 0) (pa_cons pe_int pa_nil)))))) pss_nil)
    (pss_cons (ps_if (pt_cmpR op_eq (pv 2) pe_int (nomark _)) (pss_one (ps_ret (pe_op op_sub (C8.pe_c (c__law_draw T) hr (by decide) (by rfl) (pa_cons (pv 0) (pa_cons pe_int pa_nil))) (pe_op op_pow pe_int pe_int)))) pss_nil)
    (pss_one (ps_ret (pe_op op_sub (C8.pe_c (c__law_draw T) hr (by decide) (by rfl) (pa_cons (pv 0) (pa_cons (pe_op op_add (pe_op op_mul pe_int (pv 1)) pe_int) pa_nil))) (pv 1)))))))), ?_⟩
  obtain ⟨B, src, rfl, hS, q⟩ := h
  refine ⟨_, rfl, B, src, 12, rfl, by decide, by decide, hS, fun kd H1 c0 c1 s1 k1 t1 => ?_⟩
  have d1 := (Dr.refl hS).draw s1 k1 t1
  have pw : ∀ e : Int, e = 30 ∨ e = 39 → CPow 10 e := fun e h => by rcases h with rfl | rfl <;> exact ⟨by decide, by decide, by decide⟩
  refine ⟨_, rfl, rfl, _, rfl, ifV (fun e => ?_) fun e => ⟨_, rfl, rfl, _, rfl, ifV (fun e => ?_) fun e => ⟨_, rfl, rfl, _, rfl, ifV (fun e => ?_) fun e => ?_⟩⟩⟩
  · exact ⟨_, rfl, _, _, rfl, rfl, pw 30 (.inl rfl), _, _, rfl, rfl, .inl ⟨by decide, by decide⟩, _, _, rfl, rfl, B, src, _, rfl, by decide, by decide, s1, fun r H2 a0 a1 s2 k2 t2 => ⟨_, _, rfl, rfl, pw 30 (.inl rfl), _, _, rfl, rfl, q _ _ (d1.draw s2 k2 t2)⟩⟩
  · exact ⟨_, _, rfl, rfl, pw 39 (.inr rfl), _, rfl, B, src, 20, rfl, by decide, by decide, s1, fun r H2 a0 a1 s2 k2 t2 => ⟨_, _, rfl, rfl, q _ _ (d1.draw s2 k2 t2)⟩⟩
  · exact ⟨_, rfl, B, src, 20, rfl, by decide, by decide, s1, fun r H2 a0 a1 s2 k2 t2 => ⟨_, _, rfl, rfl, pw 39 (.inr rfl), _, _, rfl, rfl, q _ _ (d1.draw s2 k2 t2)⟩⟩
  · exact ⟨_, rfl, _, rfl, _, _, rfl, rfl, .inl ⟨by decide, by decide⟩, _, _, rfl, rfl, B, src, _, rfl, by decide, by decide, s1, fun r H2 a0 a1 s2 k2 t2 => ⟨_, rfl, _, _, rfl, rfl, q _ _ (d1.draw s2 k2 t2)⟩⟩
abbrev s__law_filling : Stmt := top 78
abbrev N__law_filling : List Str := ["_law_source_here", "_law_widths_here", "_law_high", "_law_wide", "_law_found", "_law_width"]
theorem sc__law_filling : FnScope N__law_filling ["_law_source_here", "_law_widths_here", "_law_high", "_law_wide"] (C8.fnScope s__law_filling) := C8.fnScope_by (by decide +kernel)
def sp_lfilling (K : PySem.W.Frag) : Sp := fun vs H Q _ => ∃ (B : Hp) (src a : Addr) (ws : List Int), vs = [.ref src, .ref a, .int 15, .bl true] ∧ Is K H a ws ∧ ws.length ≤ 12 ∧ SrcAt B H src ∧ ∀ (b : Addr) (f : List Int) (H' : Hp), VFil ws f → Dr B src H H' → Is K H' b f → Q (.ref b) H'
theorem c__law_filling (T : Txt K mg) : C8.Cal P w K mg base 4 "_law_filling" (sp_lfilling K) [] := by
  refine calD T.d__law_filling sc__law_filling (fun vs H Q E ⟨B, src, a, ws, e, _⟩ => by rw [e]; rfl) fun f cdv A outer s H vs Q E hr h => ⟨_, (pss_cons (ps_set (i := 4) sc__law_filling.nd rfl (Or.inl rfl) (pe_lst pa_nil))
    (pss_cons (ps_for PassesOwn.never rfl (pi_tup (pv 1)) (pg_name (i := 5) sc__law_filling.nd rfl (Or.inl rfl))
      (pss_one (ps_if (pt_cmpR op_eq (pv 5) pe_int (nomark _)) (pss_one (ps_expr (pe_bm PySem.F.plainAttrs_list PySem.F.slot_list_append PySem.F.type_list_append mt_append (pv 4) (pa_cons pe_int pa_nil)))) (pss_one (ps_if (pt_val (pv 3)) (pss_one (ps_expr (pe_bm PySem.F.plainAttrs_list PySem.F.slot_list_append PySem.F.type_list_append mt_append (pv 4) (pa_cons (C8.pe_c (c__law_water T) hr (by decide) (by rfl) (pa_cons (pv 0) (pa_cons (pv 2) pa_nil))) pa_nil)))) (pss_one (ps_expr (pe_bm PySem.F.plainAttrs_list PySem.F.slot_list_append PySem.F.type_list_append mt_append (pv 4) (pa_cons (pe_op op_sub (C8.pe_c (c__law_draw T) hr (by decide) (by rfl) (pa_cons (pv 0) (pa_cons (pe_op op_add (pe_op op_mul pe_int (pv 2)) pe_int) pa_nil))) (pv 2)) pa_nil)))))))))
    (pss_one (ps_ret (pe_callTy call_tuple_of (by rfl) T.z_tuple (by decide +kernel) (pa_cons (pv 4) pa_nil)))))), ?_⟩
  obtain ⟨B, src, a, ws, rfl, ha, hw, hS, q⟩ := h
  refine ⟨(by show 0 ≤ sizeLine; decide), fun L hL => ⟨_, rfl, a, rfl, ⟨_, (Ext.new hL).sqT ha⟩, ?_⟩⟩
  have hLs := src_ne hS hL
  refine for_it (walk_tup (xs := ws.map V.int)) (fun i σ H' => ∃ (ys : List Int) (z : Option V), LpI B src L H (fun _ => True) i H' ys ∧ (∀ j, j < i → wd ws j = 0 → wd ys j = 0) ∧ σ = [some (.ref src), some (.ref a), some (.int 15), some (.bl true), some (.ref L), z]) ⟨[], none, ⟨(Dr.refl hS).ext (Ext.new hL), upd_same, rfl, fun y h => trivial⟩, fun j h => absurd h (by omega), rfl⟩ (fun i σ H' _ ⟨ys, z, p, _⟩ => p.d.tk.sqT ha)
    (fun i x σ H1 H2 hi ⟨ys, z, p, hz, es⟩ hy => ?_) fun σ H1 ⟨ys, z, p, hz, es⟩ => ?_
  · obtain ⟨rfl, hy⟩ := hy
    subst es
    have hi' : i < ws.length := by rw [List.length_map] at hi; exact hi
    rw [wd_at hi'] at hy
    obtain rfl := Option.some.inj hy
    have tyL : ∀ (H5 : Hp), Dr B src H2 H5 → ∃ xs, SqL K H5 L xs := fun H5 d5 => ⟨_, lstOf (d5.at p.l hLs)⟩
    have r0 := Dr.refl p.d.s
    have fin : ∀ (H5 : Hp) (y : Int), Dr B src H2 H5 → (wd ws i = 0 → y = 0) → ∃ (l : Addr) (zs : List V) (v : V), V.ref L = .ref l ∧ [V.int y] = [v] ∧ H5 l = some (.lst zs) ∧ zs.length < sizeLine ∧ ∃ (ys : List Int) (z : Option V), LpI B src L H (fun _ => True) (i + 1) (upd H5 l (.lst (zs ++ [v]))) ys ∧ (∀ j, j < i + 1 → wd ws j = 0 → wd ys j = 0) ∧ ([some (V.ref src), some (.ref a), some (.int 15), some (.bl true), some (.ref L), some (.int (wd ws i))] : L2.St) = [some (.ref src), some (.ref a), some (.int 15), some (.bl true), some (.ref L), z] :=
      fun H5 y d5 hy => ⟨L, ys.map .int, .int y, rfl, rfl, d5.at p.l hLs, small_line (by rw [List.length_map, p.len]; omega), ys ++ [y], _, p.app hS hL d5 trivial, fun j hj h0 => by
        unfold wd
        rw [List.getD_eq_getElem?_getD]
        by_cases hji : j < i
        · have := hz j hji h0
          unfold wd at this
          rw [List.getD_eq_getElem?_getD] at this
          rw [List.getElem?_append_left (by rw [p.len]; exact hji)]
          exact this
        · have e : j = ys.length := by rw [p.len]; omega
          have e2 : j = i := by rw [e, p.len]
          rw [e, List.getElem?_append_right (Nat.le_refl _), Nat.sub_self]
          exact hy (by rw [← e2]; exact h0), rfl⟩
    refine ⟨_, rfl, rfl, _, rfl, ifV (fun e => ⟨_, rfl, .inl ⟨rfl, tyL _ r0⟩, fin _ _ r0 fun _ => rfl⟩) fun e => ⟨_, rfl, _, rfl, _, rfl, .inl ⟨rfl, tyL _ r0⟩, _, rfl, _, rfl, B, src, rfl, p.d.s, fun r H5 d5 => fin _ _ d5 fun z => absurd z e⟩⟩
  · subst es
    rw [List.length_map] at p hz
    refine ⟨_, rfl, L, _, rfl, .inl ⟨lstOf p.l, fun t ht => q t ys _ ⟨p.len, fun k hk h0 => hz k hk h0⟩ (p.d.ext (Ext.new ht)) (tupOf upd_same)⟩⟩
theorem lotB_snoc : ∀ {xs : List Int} {l n : Int}, lotB xs l n → l + 1 ≤ n → lotB (xs ++ [n]) l (n + 1)
  | [], l, n, _, h => ⟨h, by omega, trivial⟩
  | k :: r, l, n, ⟨h1, h2, h3⟩, h => ⟨h1, by omega, lotB_snoc h3 (by omega)⟩
theorem lotB_up : ∀ {xs : List Int} {l n m : Int}, lotB xs l n → n ≤ m → lotB xs l m
  | [], _, _, _, _, _ => trivial
  | k :: r, l, n, m, ⟨h1, h2, h3⟩, h => ⟨h1, by omega, lotB_up h3 h⟩
abbrev s__law_opening : Stmt := top 79
abbrev N__law_opening : List Str := ["_law_source_here", "_law_many", "_law_k"]
theorem sc__law_opening : FnScope N__law_opening ["_law_source_here", "_law_many"] (C8.fnScope s__law_opening) := C8.fnScope_by (by decide +kernel)
def sp_lopening (K : PySem.W.Frag) : Sp := fun vs H Q _ => ∃ (B : Hp) (src : Addr) (n : Nat), vs = [.ref src, .int (n : Int)] ∧ n ≤ 36 ∧ SrcAt B H src ∧ ∀ (v : V) (op : Option (List Int)) (H' : Hp), VOp n op → Dr B src H H' → At K H' (dOp op) v → Q v H'
theorem c__law_opening (T : Txt K mg) : C8.Cal P w K mg base 3 "_law_opening" (sp_lopening K) [] := by
  refine calD T.d__law_opening sc__law_opening (fun vs H Q E ⟨B, src, a, e, _⟩ => by rw [e]; rfl) fun f cdv A outer s H vs Q E hr h => ⟨_, (pss_cons (ps_if (pt_cmpR op_eq (C8.pe_c (c__law_draw T) hr (by decide) (by rfl) (pa_cons (pv 0) (pa_cons pe_int pa_nil))) pe_int (nomark _)) (pss_one (ps_ret pe_non)) pss_nil)
    (pss_one (ps_ret (pe_callTy call_tuple_of (by rfl) T.z_tuple (by decide +kernel) (pa_cons (pe_lc (own := [("_law_k", 2)]) (g := (gName 2)) rfl sc__law_opening.nd (pi_range1 (by rfl) T.z_range (pa_cons (pv 1) pa_nil)) (blkOk_by (own := [("_law_k", 2)]) (N := N__law_opening) (sc := C8.fnScope s__law_opening) (by decide +kernel)) (fun _ _ _ _ _ => (pg_name (i := 2) sc__law_opening.nd rfl (Or.inl rfl))) (fun _ _ _ _ _ => (pts_one (pt_cmpR op_gt (C8.pe_c (c__law_draw T) hr (by decide) (by rfl) (pa_cons (pv 0) (pa_cons pe_int pa_nil))) pe_int (nomark _)))) (fun _ _ _ _ _ => (pv 2))) pa_nil))))), ?_⟩
  obtain ⟨B, src, n, rfl, hn, hS, q⟩ := h
  refine ⟨_, rfl, B, src, 3, rfl, by decide, by decide, hS, fun kd H1 c0 c1 s1 k1 t1 => ?_⟩
  have d1 := (Dr.refl hS).draw s1 k1 t1
  refine ⟨rfl, _, rfl, ifV (fun e => q _ none _ (fun l h => by cases h) d1 rfl) fun e => ?_⟩
  refine ⟨_, rfl, (n : Int), rfl, by omega, by omega, fun D hD => ?_⟩
  have ev : ((n : Int)).toNat = n := Int.toNat_natCast n
  refine lc_it (walk_range (lo := 0) (n := ((n : Int)).toNat)) (fun i H' => i ≤ n ∧ ∃ ks : List Int, Dr B src H1 H' ∧ H' D = some (.lst (ks.map .int)) ∧ lotB ks (-1) i ∧ ks.length ≤ i) ⟨Nat.zero_le _, [], (Dr.refl s1).ext (Ext.new hD), upd_same, trivial, Nat.le_refl _⟩ (fun _ _ _ _ => trivial) (fun i x H2 H3 hi ⟨hin, ks, d, hl, hb, hkl⟩ hy => ?_) fun H2 ⟨hin, ks, d, hl, hb, hkl⟩ => ?_
  · obtain ⟨rfl, rfl⟩ := hy
    refine ⟨rfl, _, rfl, B, src, 3, rfl, by decide, by decide, d.s, fun r H4 a0 a1 s4 k4 t4 => ⟨_, _, rfl, rfl, _, rfl, ifD (fun hp => ?_) fun hp => ?_⟩⟩
    · have hDs := src_ne s1 hD
      have d4 := d.draw s4 k4 t4
      have hl4 : H4 D = some (.lst (ks.map .int)) := k4 _ _ hl (by simpa using hDs)
      refine ⟨_, rfl, _, hl4, small_line (by rw [List.length_map]; omega), by omega, ks ++ [(i : Int)], d4.lst s1 hD hl4, ?_, ?_, by rw [List.length_append]; show _ + 1 ≤ _; omega⟩
      · rw [upd_same, List.map_append]
        show some (HO.lst (ks.map V.int ++ [V.int (0 + (i : Int))])) = some (.lst (ks.map V.int ++ [.int (i : Int)]))
        rw [Int.zero_add]
      · have := lotB_snoc hb (by omega)
        rw [show ((i + 1 : Nat) : Int) = (i : Int) + 1 by omega]
        exact this
    · have hDs := src_ne s1 hD
      exact ⟨by omega, ks, d.draw s4 k4 t4, k4 _ _ hl (by simpa using hDs), lotB_up hb (by omega), by omega⟩
  · rw [ev] at hb
    refine ⟨D, _, rfl, .inl ⟨lstOf hl, fun t ht => q _ (some ks) _ (fun l h => by cases h; exact hb) ((d1.trans d).ext (Ext.new ht)) (ints_at (tupOf upd_same))⟩⟩
/-! plans -/
structure Plan where
  used : Int
  ops : List (Option (List Int))
  back : Nat
  ending : Nat
  part : Int
/-- the plan v, its openings' list at lo -/
def PlanAt (K : PySem.W.Frag) (H : Hp) (v : V) (lo : Addr) (pl : Plan) : Prop := ∃ a xs, v = .ref a ∧ SqT K H a [.int pl.used, .ref lo, .int (pl.back : Int), .int (pl.ending : Int), .int pl.part] ∧ H lo = some (.lst xs) ∧ Ats K H (pl.ops.map dOp) xs
def VPlan (n : Nat) (pl : Plan) : Prop := (pl.used = 0 ∨ pl.used = 1) ∧ pl.ops.length ≤ 3 ∧ (∀ op ∈ pl.ops, VOp n op) ∧ pl.back ≤ 5 ∧ pl.ending ≤ 11 ∧ 0 ≤ pl.part ∧ pl.part < 1000000
theorem call_lenK {X : Cx} {K : PySem.W.Frag} (e : X.K = K) : CallR X (.builtin "len") (fun xs H Q => ∃ p ys, xs = [.ref p] ∧ (SqL K H p ys ∨ SqT K H p ys) ∧ Q (.int ys.length) H) := by
  rw [← e]
  exact call_len_seq
abbrev s__law_plan : Stmt := top 94
abbrev N__law_plan : List Str := ["_law_source_here", "_law_pipes_here", "_law_k", "_law_openings", "_law_back", "_law_ending"]
theorem sc__law_plan : FnScope N__law_plan ["_law_source_here", "_law_pipes_here"] (C8.fnScope s__law_plan) := C8.fnScope_by (by decide +kernel)
def sp_lplan (K : PySem.W.Frag) : Sp := fun vs H Q _ => ∃ (B : Hp) (src pa : Addr) (xs : List V), vs = [.ref src, .ref pa] ∧ SqT K H pa xs ∧ xs.length ≤ 36 ∧ SrcAt B H src ∧ ∀ (v : V) (lo : Addr) (pl : Plan) (H' : Hp), Dr B src H H' → H lo = none → PlanAt K H' v lo pl → VPlan xs.length pl → Q v H'
theorem c__law_plan (T : Txt K mg) : C8.Cal P w K mg base 4 "_law_plan" (sp_lplan K) [] := by
  refine calD T.d__law_plan sc__law_plan (fun vs H Q E ⟨B, src, a, xs, e, _⟩ => by rw [e]; rfl) fun f cdv A outer s H vs Q E hr h => ⟨_, (pss_cons (ps_setLc (i := 3) (own := [("_law_k", 2)]) (g := (gName 2)) rfl sc__law_plan.nd rfl rfl (sw_true rfl rfl rfl (by decide +kernel)) (pi_range1 (by rfl) T.z_range (pa_cons (C8.pe_c (c__law_draw T) hr (by decide) (by rfl) (pa_cons (pv 0) (pa_cons pe_int pa_nil))) pa_nil)) (blkOk_by (own := [("_law_k", 2)]) (N := N__law_plan) (sc := C8.fnScope s__law_plan) (by decide +kernel)) (fun _ _ _ _ _ => (pg_name (i := 2) sc__law_plan.nd rfl (Or.inl rfl))) (fun _ _ _ _ _ => pts_nil) (fun _ _ _ _ _ => (C8.pe_c (c__law_opening T) hr (by decide) (by rfl) (pa_cons (pv 0) (pa_cons (pe_callB (call_lenK (K := K) rfl) (by rfl) T.z_len (by decide +kernel) (pa_cons (pv 1) pa_nil)) pa_nil)))))
    (pss_cons (ps_set (i := 4) sc__law_plan.nd rfl (Or.inl rfl) pe_int)
    (pss_cons (ps_if (pt_cmpR op_eq (C8.pe_c (c__law_draw T) hr (by decide) (by rfl) (pa_cons (pv 0) (pa_cons pe_int pa_nil))) pe_int (nomark _)) (pss_one (ps_set (i := 4) sc__law_plan.nd rfl (Or.inl rfl) (C8.pe_c (c__law_draw T) hr (by decide) (by rfl) (pa_cons (pv 0) (pa_cons pe_int pa_nil))))) pss_nil)
    (pss_cons (ps_set (i := 5) sc__law_plan.nd rfl (Or.inl rfl) pe_int)
    (pss_cons (ps_if (pt_cmpR op_eq (C8.pe_c (c__law_draw T) hr (by decide) (by rfl) (pa_cons (pv 0) (pa_cons pe_int pa_nil))) pe_int (nomark _)) (pss_one (ps_set (i := 5) sc__law_plan.nd rfl (Or.inl rfl) (C8.pe_c (c__law_draw T) hr (by decide) (by rfl) (pa_cons (pv 0) (pa_cons pe_int pa_nil))))) pss_nil)
    (pss_one (ps_ret (pe_tup (pa_cons (C8.pe_c (c__law_draw T) hr (by decide) (by rfl) (pa_cons (pv 0) (pa_cons pe_int pa_nil))) (pa_cons (pv 3) (pa_cons (pv 4) (pa_cons (pv 5) (pa_cons (C8.pe_c (c__law_draw T) hr (by decide) (by rfl) (pa_cons (pv 0) (pa_cons (pe_op op_pow pe_int pe_int) pa_nil))) pa_nil))))))))))))), ?_⟩
  obtain ⟨B, src, pa, xs, rfl, hpa, hxl, hS, q⟩ := h
  refine ⟨_, rfl, B, src, 4, rfl, by decide, by decide, hS, fun r1 H1 a0 a1 s1 k1 t1 => ⟨r1, rfl, by omega, by omega, fun D hD => ?_⟩⟩
  have d1 := (Dr.refl hS).draw s1 k1 t1
  have hD0 : H D = none := by
    cases z : H D with
    | none => rfl
    | some o =>
      by_cases hs : D = src
      · obtain ⟨q1, q2⟩ := s1.lst
        rw [hs, q2] at hD
        cases hD
      · rw [k1 _ _ z (by simpa using hs)] at hD
        cases hD
  have hDs := src_ne s1 hD
  refine lc_it (walk_range (lo := 0) (n := r1.toNat)) (fun i H' => ∃ (ops : List (Option (List Int))) (ys : List V), Dr B src H1 H' ∧ H' D = some (.lst ys) ∧ Ats K H' (ops.map dOp) ys ∧ ops.length = i ∧ ∀ op ∈ ops, VOp xs.length op) ⟨[], [], (Dr.refl s1).ext (Ext.new hD), upd_same, rfl, rfl, fun op h => absurd h (by simp)⟩ (fun _ _ _ _ => trivial) (fun i x H2 H3 hi ⟨ops, ys, d, hl, hops, hol, hv⟩ hy => ?_) fun H2 ⟨ops, ys, d, hl, hops, hol, hv⟩ => ?_
  · obtain ⟨rfl, rfl⟩ := hy
    refine ⟨rfl, _, rfl, _, rfl, pa, xs, rfl, .inr ((d1.trans d).tk.sqT hpa), B, src, xs.length, rfl, hxl, d.s, fun v op H4 hop d4 hat => ?_⟩
    have hl4 := d4.at hl hDs
    have hyl : ys.length = ops.length := by rw [hops.len, List.length_map]
    have t6 : Tk H4 (upd H4 D (.lst (ys ++ [v]))) := Tk.upd hl4 trivial
    refine ⟨ys, hl4, small_line (by omega), ops ++ [op], ys ++ [v], (d.trans d4).lst s1 hD hl4, upd_same, ?_, by rw [List.length_append, hol]; rfl, fun o ho => ?_⟩
    · rw [List.map_append]
      exact Ats.snoc (hops.tk (d4.tk.trans t6) (pures_of pure_op _)) (hat.tk t6 (pure_op op))
    · rcases List.mem_append.mp ho with h | h
      · exact hv o h
      · rw [List.mem_singleton.mp h]
        exact hop
  · have d2 := d1.trans d
    have hops2 : ∀ {H3 : Hp}, Tk H2 H3 → Ats K H3 (ops.map dOp) ys := fun t => hops.tk t (pures_of pure_op _)
    -- the end: used, openings, back, ending, part
    have last : ∀ (H4 : Hp) (bk en : Int), Dr B src H2 H4 → 0 ≤ bk → bk ≤ 5 → 0 ≤ en → en ≤ 11 → ∀ (z : L2.St), z = [some (V.ref src), some (.ref pa), none, some (.ref D), some (.int bk), some (.int en)] → tRet (tTup (tCons (tCall sp_draw [] C8.E0 (tCons (tVar 0) (tCons (tC (.int 2)) tNil))) (tCons (tVar 3) (tCons (tVar 4) (tCons (tVar 5) (tCons (tCall sp_draw [] C8.E0 (tCons (tVar 0) (tCons (tOp (rI CPow fun i j => .int (i ^ j.toNat)) (tC (.int 10)) (tC (.int 6))) tNil))) tNil)))))) { nx := fun _ H' => Q .non H', rt := Q } z H4 := by
      intro H4 bk en d4 hb0 hb1 he0 he1 z ez
      subst ez
      refine ⟨_, rfl, B, src, 2, rfl, by decide, by decide, d4.s, fun r5 H5 e0 e1 s5 k5 t5 => ⟨_, rfl, _, rfl, _, rfl, _, rfl, _, _, rfl, rfl, ⟨by decide, by decide, by decide⟩, B, src, _, rfl, by decide, by decide, s5, fun r6 H6 f0 f1 s6 k6 t6 => ⟨(by show 5 ≤ sizeLine; decide), fun T1 hT1 => ?_⟩⟩⟩
      have d6 := (d4.draw s5 k5 t5).draw s6 k6 t6
      refine q _ D ⟨r5, ops, bk.toNat, en.toNat, r6⟩ _ ((d2.trans d6).ext (Ext.new hT1)) hD0 ⟨T1, ys, rfl, ?_, (Ext.new hT1) _ _ (d6.at hl hDs), hops2 (d6.tk.trans (Ext.new hT1).tk)⟩ ⟨?_, ?_, hv, ?_, ?_, f0, f1⟩
      · show SqT K _ T1 [.int r5, .ref D, .int ((bk.toNat : Nat) : Int), .int ((en.toNat : Nat) : Int), .int r6]
        rw [Int.toNat_of_nonneg hb0, Int.toNat_of_nonneg he0]
        exact tupOf upd_same
      · show r5 = 0 ∨ r5 = 1
        omega
      · show ops.length ≤ 3
        omega
      · show bk.toNat ≤ 5
        omega
      · show en.toNat ≤ 11
        omega
    have endg : ∀ (H4 : Hp) (bk : Int), Dr B src H2 H4 → 0 ≤ bk → bk ≤ 5 → ∀ (z : L2.St), z = [some (V.ref src), some (.ref pa), none, some (.ref D), some (.int bk), none] → tSeq (tAsg (tC (.int 11)) (gName 5)) (tSeq (tIfS (tTest (tOp rEq (tCall sp_draw [] C8.E0 (tCons (tVar 0) (tCons (tC (.int 3)) tNil))) (tC (.int 0)))) (tAsg (tCall sp_draw [] C8.E0 (tCons (tVar 0) (tCons (tC (.int 11)) tNil))) (gName 5)) tNext) (tRet (tTup (tCons (tCall sp_draw [] C8.E0 (tCons (tVar 0) (tCons (tC (.int 2)) tNil))) (tCons (tVar 3) (tCons (tVar 4) (tCons (tVar 5) (tCons (tCall sp_draw [] C8.E0 (tCons (tVar 0) (tCons (tOp (rI CPow fun i j => .int (i ^ j.toNat)) (tC (.int 10)) (tC (.int 6))) tNil))) tNil)))))))) { nx := fun _ H' => Q .non H', rt := Q } z H4 := by
      intro H4 bk d4 hb0 hb1 z ez
      subst ez
      refine ⟨_, rfl, B, src, 3, rfl, by decide, by decide, d4.s, fun r5 H5 e0 e1 s5 k5 t5 => ⟨rfl, _, rfl, ifV (fun e => ?_) fun e => ?_⟩⟩
      · exact ⟨_, rfl, B, src, 11, rfl, by decide, by decide, s5, fun r6 H6 f0 f1 s6 k6 t6 => last H6 bk r6 ((d4.draw s5 k5 t5).draw s6 k6 t6) hb0 hb1 f0 (by omega) _ rfl⟩
      · exact last H5 bk 11 (d4.draw s5 k5 t5) hb0 hb1 (by decide) (by decide) _ rfl
    refine ⟨_, rfl, B, src, 2, rfl, by decide, by decide, d.s, fun r5 H5 e0 e1 s5 k5 t5 => ⟨rfl, _, rfl, ifV (fun e => ?_) fun e => ?_⟩⟩
    · exact ⟨_, rfl, B, src, 6, rfl, by decide, by decide, s5, fun r6 H6 f0 f1 s6 k6 t6 => endg H6 r6 ((Dr.refl d.s).draw s5 k5 t5 |>.draw s6 k6 t6) f0 (by omega) _ rfl⟩
    · exact endg H5 0 ((Dr.refl d.s).draw s5 k5 t5) (by decide) (by decide) _ rfl
end
end K14
end
section
/-! The law's mirror of the flows. -/
namespace K14
open PySem PySem.Spec PyProof.Rows L2 RZ K14H
/-! ### the mathematics -/
theorem unit_le {g : Int} {s : Int × Int} {m : Int} (h2 : 1 ≤ s.2) : unit g s ≤ m ↔ s.1 * g ≤ m * s.2 := by
  have gp := gcd_pos (a := s.1 * g) (b := s.2) (by omega)
  have d1 : (Int.gcd (s.1 * g) s.2 : Int) ∣ s.1 * g := Int.gcd_dvd_left _ _
  have d2 : (Int.gcd (s.1 * g) s.2 : Int) ∣ s.2 := Int.gcd_dvd_right _ _
  unfold unit
  generalize (Int.gcd (s.1 * g) s.2 : Int) = c at gp d1 d2
  obtain ⟨t, ht⟩ := d1
  obtain ⟨b, hb⟩ := d2
  rw [ht, hb, Int.mul_ediv_cancel_left _ (by omega), Int.mul_ediv_cancel_left _ (by omega)]
  have hb0 : 0 < b := by
    rcases Int.lt_trichotomy b 0 with h | h | h
    · have := Int.mul_neg_of_pos_of_neg gp h
      omega
    · rw [h, Int.mul_zero] at hb
      omega
    · exact h
  have e1 : -(-t / b) ≤ m ↔ -m ≤ -t / b := by omega
  rw [e1, Int.le_ediv_iff_mul_le hb0, Int.neg_mul]
  have e2 : m * (c * b) = c * (m * b) := by rw [← Int.mul_assoc, Int.mul_comm m c, Int.mul_assoc]
  rw [e2]
  constructor
  · intro h
    exact Int.mul_le_mul_of_nonneg_left (by omega) (by omega)
  · intro h
    have := Int.le_of_mul_le_mul_left h gp
    omega
theorem iabs_nonneg (i : Int) : 0 ≤ iabs i := by
  unfold iabs
  split <;> omega
theorem iabs_mul {a b : Int} (h : 0 ≤ b) : iabs (a * b) = iabs a * b := by
  unfold iabs
  by_cases ha : a < 0
  · rw [if_pos ha]
    by_cases hb : b = 0
    · subst hb
      simp
    · have : a * b < 0 := Int.mul_neg_of_neg_of_pos ha (by omega)
      rw [if_pos this, Int.neg_mul]
  · rw [if_neg ha, if_neg]
    have := Int.mul_nonneg (show 0 ≤ a by omega) h
    omega
/-- the law's count -/
def cntL (ss : List (Int × Int)) (p q : Int) : Nat := (ss.filter fun s => decide (s.1 * q ≤ iabs p * s.2)).length
def flowL (ss : List (Int × Int)) (p q : Int) : Int := if p < 0 then -(cntL ss p q : Int) else (cntL ss p q : Int)
theorem count_eq {g n p q : Int} (hg : 0 < g) (hq : 0 < q) (e : n * q = p * g) : ∀ {ss : List (Int × Int)}, (∀ s ∈ ss, VStep s) → cnt (ss.map (unit g)) n = cntL ss p q
  | [], _ => rfl
  | s :: ss, h => by
    have ih := count_eq hg hq e (ss := ss) fun t ht => h t (List.mem_cons_of_mem _ ht)
    unfold cnt cntL at ih ⊢
    have hs := h s (List.mem_cons_self ..)
    have key : decide (unit g s ≤ iabs n) = decide (s.1 * q ≤ iabs p * s.2) := by
      apply decide_eq_decide.mpr
      rw [unit_le hs.2.2.1]
      have e2 : iabs n * q = iabs p * g := by rw [← iabs_mul (by omega), ← iabs_mul (by omega), e]
      have a1 : s.1 * g * q = s.1 * q * g := by rw [Int.mul_assoc, Int.mul_comm g q, ← Int.mul_assoc]
      have a2 : iabs n * s.2 * q = iabs p * s.2 * g := by
        rw [Int.mul_assoc, Int.mul_comm s.2 q, ← Int.mul_assoc, e2, Int.mul_assoc, Int.mul_comm g s.2, ← Int.mul_assoc]
      constructor
      · intro z
        have := Int.mul_le_mul_of_nonneg_right z (show 0 ≤ q by omega)
        rw [a1, a2] at this
        exact Int.le_of_mul_le_mul_right this hg
      · intro z
        have := Int.mul_le_mul_of_nonneg_right z (show 0 ≤ g by omega)
        rw [← a1, ← a2] at this
        exact Int.le_of_mul_le_mul_right this hq
    rw [List.map_cons, List.filter_cons, List.filter_cons, key]
    cases decide (s.1 * q ≤ iabs p * s.2) with
    | true => simpa using ih
    | false => simpa using ih
theorem cnt_zero {g : Int} (hg : 0 < g) {ss : List (Int × Int)} (h : ∀ s ∈ ss, VStep s) : cnt (ss.map (unit g)) 0 = 0 := by
  unfold cnt
  rw [List.length_eq_zero_iff, List.filter_eq_nil_iff]
  intro u hu
  obtain ⟨s, hs, rfl⟩ := List.mem_map.mp hu
  have v := h s hs
  have e : iabs 0 = 0 := rfl
  rw [e]
  intro z
  have z2 := (unit_le v.2.2.1).mp (of_decide_eq_true z)
  have := Int.mul_pos (show 0 < s.1 by have := v.1; omega) hg
  omega
theorem flow_eq {g n p q : Int} (hg : 0 < g) (hq : 0 < q) (e : n * q = p * g) {ss : List (Int × Int)} (h : ∀ s ∈ ss, VStep s) : runN (ss.map (unit g)) n = flowL ss p q := by
  have c := count_eq hg hq e h
  unfold runN flowL
  rcases Int.lt_trichotomy n 0 with hn | hn | hn
  · have : p < 0 := by
      have h1 : p * g < 0 := by
        rw [← e]
        exact Int.mul_neg_of_neg_of_pos hn hq
      rcases Int.lt_trichotomy p 0 with z | z | z
      · exact z
      · rw [z, Int.zero_mul] at h1
        omega
      · have := Int.mul_pos z hg
        omega
    rw [if_neg (by omega), if_pos this, c]
  · subst hn
    have z := cnt_zero hg h
    rw [c] at z
    rw [if_neg (by omega), c, z]
    split <;> rfl
  · have : 0 < p := by
      have h1 : 0 < p * g := by
        rw [← e]
        exact Int.mul_pos hn hq
      rcases Int.lt_trichotomy p 0 with z | z | z
      · have := Int.mul_neg_of_neg_of_pos z hg
        omega
      · rw [z, Int.zero_mul] at h1
        omega
      · exact z
    rw [if_pos hn, if_neg (by omega), c]
/-- the level of water f in width w, as a fraction -/
def Lev (f w p q : Int) : Prop := 1 ≤ q ∧ q ≤ 12 ∧ (w = 0 → p = 0) ∧ (w ≠ 0 → p * w = f * q)
theorem lev_fac {f w p q g : Int} (h : Lev f w p q) (hd : w ≠ 0 → w ∣ g) : q * (f * fac g w) = p * g := by
  obtain ⟨h1, h2, h3, h4⟩ := h
  unfold fac
  by_cases hw : w = 0
  · rw [if_pos hw, h3 hw, Int.mul_zero, Int.mul_zero, Int.zero_mul]
  · rw [if_neg hw]
    obtain ⟨k, hk⟩ := hd hw
    have e := h4 hw
    rw [hk, Int.mul_ediv_cancel_left _ hw, ← Int.mul_assoc, Int.mul_comm q f, ← e, Int.mul_assoc]
theorem grains_dvd {x y : Int} (hx : 0 ≤ x) (hy : 0 ≤ y) : (x ≠ 0 → x ∣ grains x y) ∧ (y ≠ 0 → y ∣ grains x y) := by
  unfold grains
  split
  · rename_i h
    refine ⟨fun hx0 => ?_, fun hy0 => ?_⟩
    · have : max (max x y) 1 = x := by omega
      rw [this]
      exact Int.dvd_refl x
    · have : max (max x y) 1 = y := by omega
      rw [this]
      exact Int.dvd_refl y
  · have d1 : (Int.gcd x y : Int) ∣ x := Int.gcd_dvd_left _ _
    have d2 : (Int.gcd x y : Int) ∣ y := Int.gcd_dvd_right _ _
    have gp := gcd_pos (a := x) (b := y) (by omega)
    generalize (Int.gcd x y : Int) = c at d1 d2 gp
    obtain ⟨a, ha⟩ := d1
    obtain ⟨b, hb⟩ := d2
    refine ⟨fun _ => ?_, fun _ => ⟨x / c, by rw [Int.mul_comm]⟩⟩
    rw [ha, Int.mul_ediv_cancel_left _ (by omega), hb]
    exact ⟨b, by rw [← Int.mul_assoc, Int.mul_comm a c]⟩
theorem drop_eq {ws f : List Int} {p : Pipe} {p1 q1 p2 q2 P Q : Int} (hw : ∀ x ∈ ws, 0 ≤ x) (ha : p.a < ws.length) (hb : p.b < ws.length) (l1 : Lev (wd f p.a) (wd ws p.a) p1 q1) (l2 : Lev (wd f p.b) (wd ws p.b) p2 q2) (e : P * (q1 * q2) = (p1 * q2 - p2 * q1) * Q) : drop ws f p * Q = P * pg ws p := by
  have w1 := hw _ (wd_mem (ws := ws) (i := p.a) ha)
  have w2 := hw _ (wd_mem (ws := ws) (i := p.b) hb)
  have gd := grains_dvd w1 w2
  have e1 := lev_fac (g := pg ws p) l1 gd.1
  have e2 := lev_fac (g := pg ws p) l2 gd.2
  unfold drop
  generalize wd f p.a * fac (pg ws p) (wd ws p.a) = A at e1
  generalize wd f p.b * fac (pg ws p) (wd ws p.b) = B at e2
  generalize pg ws p = g at e1 e2
  have hq : q1 * q2 ≠ 0 := by
    have := Int.mul_pos (show 0 < q1 by have := l1.1; omega) (show 0 < q2 by have := l2.1; omega)
    omega
  apply Int.eq_of_mul_eq_mul_left hq
  calc q1 * q2 * ((A - B) * Q) = (q2 * (q1 * A) - q1 * (q2 * B)) * Q := by
        simp only [Int.mul_sub, Int.sub_mul, Int.mul_assoc, Int.mul_left_comm, Int.mul_comm]
    _ = (q2 * (p1 * g) - q1 * (p2 * g)) * Q := by rw [e1, e2]
    _ = ((p1 * q2 - p2 * q1) * Q) * g := by simp only [Int.mul_sub, Int.sub_mul, Int.mul_assoc, Int.mul_left_comm, Int.mul_comm]
    _ = P * (q1 * q2) * g := by rw [e]
    _ = q1 * q2 * (P * g) := by simp only [Int.mul_assoc, Int.mul_left_comm, Int.mul_comm]
end K14
end
section
/-! The law's mirror, walked. -/
namespace K14
open PySem PySem.Spec PyProof.Rows L2 RZ K14H
section
variable {P : Program} {w : World} {K : PySem.W.Frag} {mg : Str → Option Value} {base : Heap}
theorem gcd_mul_div {t b : Int} (hb : 0 < b) : t / (Int.gcd t b : Int) * b = t * (b / (Int.gcd t b : Int)) := by
  have gp := gcd_pos (a := t) (b := b) (by omega)
  have d1 : (Int.gcd t b : Int) ∣ t := Int.gcd_dvd_left _ _
  have d2 : (Int.gcd t b : Int) ∣ b := Int.gcd_dvd_right _ _
  generalize (Int.gcd t b : Int) = c at gp d1 d2
  obtain ⟨x, hx⟩ := d1
  obtain ⟨y, hy⟩ := d2
  rw [hx, hy, Int.mul_ediv_cancel_left _ (by omega), Int.mul_ediv_cancel_left _ (by omega)]
  simp only [Int.mul_assoc, Int.mul_left_comm, Int.mul_comm]
theorem ediv_gcd_pos {t b : Int} (hb : 0 < b) : 1 ≤ b / (Int.gcd t b : Int) ∧ b / (Int.gcd t b : Int) ≤ b := by
  have gp := gcd_pos (a := t) (b := b) (by omega)
  exact ⟨Int.ediv_pos_of_pos_of_dvd hb (by omega) (Int.gcd_dvd_right t b), Int.ediv_le_self _ (by omega)⟩
abbrev s__law_level : Stmt := top 80
abbrev N__law_level : List Str := ["_law_water_here", "_law_width"]
theorem sc__law_level : FnScope N__law_level ["_law_water_here", "_law_width"] (C8.fnScope s__law_level) := C8.fnScope_by (by decide +kernel)
def sp_level (K : PySem.W.Frag) : Sp := fun vs H Q _ => ∃ f x : Int, vs = [.int f, .int x] ∧ 0 ≤ x ∧ x ≤ 12 ∧ ∀ t p q H', Lev f x p q → Ext H H' → H' t = some (.tup [.int p, .int q]) → Q (.ref t) H'
theorem c__law_level (T : Txt K mg) : C8.Cal P w K mg base 3 "_law_level" (sp_level K) [] := by
  refine calD T.d__law_level sc__law_level (fun vs H Q E ⟨B, src, e, _⟩ => by rw [e]; rfl) fun f cdv A outer s H vs Q E hr h => ⟨_, (pss_cons (ps_if (pt_cmpR op_eq (pv 1) pe_int (nomark _)) (pss_one (ps_ret (pe_tup (pa_cons pe_int (pa_cons pe_int pa_nil))))) pss_nil)
    (pss_one (ps_ret (C8.pe_c (c__law_made T) hr (by decide) (by rfl) (pa_cons (pv 0) (pa_cons (pv 1) pa_nil)))))), ?_⟩
  obtain ⟨f, x, rfl, h0, h1, q⟩ := h
  refine ⟨_, rfl, rfl, _, rfl, ifV (fun e => ⟨(by show 2 ≤ sizeLine; decide), fun t ht => q t 0 1 _ ⟨by decide, by decide, fun _ => rfl, fun z => absurd e z⟩ (Ext.new ht) upd_same⟩) fun e => ⟨_, rfl, _, rfl, f, x, rfl, by omega, by omega, fun t ht => ?_⟩⟩
  have b := ediv_gcd_pos (t := f) (b := x) (by omega)
  exact q t _ _ _ ⟨b.1, by omega, fun z => absurd z e, fun _ => gcd_mul_div (by omega)⟩ (Ext.new ht) upd_same
abbrev s__law_added : Stmt := top 69
abbrev N__law_added : List Str := ["_law_one", "_law_other"]
theorem sc__law_added : FnScope N__law_added ["_law_one", "_law_other"] (C8.fnScope s__law_added) := C8.fnScope_by (by decide +kernel)
def sp_ladded (K : PySem.W.Frag) : Sp := fun vs H Q _ => ∃ (u v : Addr) (p1 q1 p2 q2 : Int), vs = [.ref u, .ref v] ∧ SqT K H u [.int p1, .int q1] ∧ SqT K H v [.int p2, .int q2] ∧ 1 ≤ q1 ∧ q1 ≤ 12 ∧ 1 ≤ q2 ∧ q2 ≤ 12 ∧ ∀ t p q H', 1 ≤ q → q ≤ 144 → p * (q1 * q2) = (p1 * q2 + p2 * q1) * q → Ext H H' → H' t = some (.tup [.int p, .int q]) → Q (.ref t) H'
theorem c__law_added (T : Txt K mg) : C8.Cal P w K mg base 3 "_law_added" (sp_ladded K) [] := by
  refine calD T.d__law_added sc__law_added (fun vs H Q E ⟨u, v, p1, q1, p2, q2, e, _⟩ => by rw [e]; rfl) fun f cdv A outer s H vs Q E hr h => ⟨_, (pss_one (ps_ret (C8.pe_c (c__law_made T) hr (by decide) (by rfl) (pa_cons (pe_op op_add (pe_op op_mul (pe_ix (ix_k (K := K) rfl) (pv 0) pe_int (fun _ _ => rfl)) (pe_ix (ix_k (K := K) rfl) (pv 1) pe_int (fun _ _ => rfl))) (pe_op op_mul (pe_ix (ix_k (K := K) rfl) (pv 1) pe_int (fun _ _ => rfl)) (pe_ix (ix_k (K := K) rfl) (pv 0) pe_int (fun _ _ => rfl)))) (pa_cons (pe_op op_mul (pe_ix (ix_k (K := K) rfl) (pv 0) pe_int (fun _ _ => rfl)) (pe_ix (ix_k (K := K) rfl) (pv 1) pe_int (fun _ _ => rfl))) pa_nil))))), ?_⟩
  obtain ⟨u, v, p1, q1, p2, q2, rfl, hu, hv, a1, a2, b1, b2, q⟩ := h
  have hp : 0 < q1 * q2 := Int.mul_pos (by omega) (by omega)
  have hle : q1 * q2 ≤ 144 := by
    have := Int.mul_le_mul a2 b2 (by omega) (by omega)
    omega
  refine ⟨_, rfl, u, _, 0, _, rfl, rfl, .inr hu, rfl, _, rfl, v, _, 1, _, rfl, rfl, .inr hv, rfl, _, _, rfl, rfl, .inr ⟨by omega, by omega⟩, _, rfl, v, _, 0, _, rfl, rfl, .inr hv, rfl, _, rfl, u, _, 1, _, rfl, rfl, .inr hu, rfl, _, _, rfl, rfl, .inr ⟨by omega, by omega⟩, _, _, rfl, rfl,
    _, rfl, u, _, 1, _, rfl, rfl, .inr hu, rfl, _, rfl, v, _, 1, _, rfl, rfl, .inr hv, rfl, _, _, rfl, rfl, .inr ⟨by omega, by omega⟩, _, _, rfl, hp, by omega, fun t ht => ?_⟩
  have b := ediv_gcd_pos (t := p1 * q2 + p2 * q1) (b := q1 * q2) hp
  exact q t _ _ _ b.1 (by omega) (gcd_mul_div hp) (Ext.new ht) upd_same
abbrev s__law_drop : Stmt := top 81
abbrev N__law_drop : List Str := ["_law_widths_here", "_law_pipe_here", "_law_filling_here", "_law_one", "_law_other"]
theorem sc__law_drop : FnScope N__law_drop ["_law_widths_here", "_law_pipe_here", "_law_filling_here"] (C8.fnScope s__law_drop) := C8.fnScope_by (by decide +kernel)
def sp_ldrop (K : PySem.W.Frag) : Sp := fun vs H Q _ => ∃ (wa fa : Addr) (v : V) (ws f : List Int) (pp : Pipe), vs = [.ref wa, v, .ref fa] ∧ Is K H wa ws ∧ VWidths ws ∧ Is K H fa f ∧ f.length = ws.length ∧ At K H (dPipe pp) v ∧ VPipe ws.length pp ∧
  ∀ t p q H', 1 ≤ q → q ≤ 144 → drop ws f pp * q = p * pg ws pp → Ext H H' → H' t = some (.tup [.int p, .int q]) → Q (.ref t) H'
theorem c__law_drop (T : Txt K mg) : C8.Cal P w K mg base 4 "_law_drop" (sp_ldrop K) [] := by
  refine calD T.d__law_drop sc__law_drop (fun vs H Q E ⟨u, v, p1, q1, p2, q2, e, _⟩ => by rw [e]; rfl) fun f cdv A outer s H vs Q E hr h => ⟨_, (pss_cons (ps_set (i := 3) sc__law_drop.nd rfl (Or.inl rfl) (C8.pe_c (c__law_level T) hr (by decide) (by rfl) (pa_cons (pe_ix (ix_k (K := K) rfl) (pv 2) (pe_ix (ix_k (K := K) rfl) (pv 1) pe_int (fun _ _ => rfl)) (fun _ _ => rfl)) (pa_cons (pe_ix (ix_k (K := K) rfl) (pv 0) (pe_ix (ix_k (K := K) rfl) (pv 1) pe_int (fun _ _ => rfl)) (fun _ _ => rfl)) pa_nil))))
    (pss_cons (ps_set (i := 4) sc__law_drop.nd rfl (Or.inl rfl) (C8.pe_c (c__law_level T) hr (by decide) (by rfl) (pa_cons (pe_ix (ix_k (K := K) rfl) (pv 2) (pe_ix (ix_k (K := K) rfl) (pv 1) pe_int (fun _ _ => rfl)) (fun _ _ => rfl)) (pa_cons (pe_ix (ix_k (K := K) rfl) (pv 0) (pe_ix (ix_k (K := K) rfl) (pv 1) pe_int (fun _ _ => rfl)) (fun _ _ => rfl)) pa_nil))))
    (pss_one (ps_ret (C8.pe_c (c__law_added T) hr (by decide) (by rfl) (pa_cons (pv 3) (pa_cons (pe_tup (pa_cons (pe_un un_neg (pe_ix (ix_k (K := K) rfl) (pv 4) pe_int (fun _ _ => rfl))) (pa_cons (pe_ix (ix_k (K := K) rfl) (pv 4) pe_int (fun _ _ => rfl)) pa_nil))) pa_nil))))))), ?_⟩
  obtain ⟨wa, fa, v, ws, f, pp, rfl, hw, hvw, hf, hfl, hp, hvp, q⟩ := h
  obtain ⟨a, u, rfl, ha, hu⟩ := at_pipe hp
  have la : pp.a < ws.length := Nat.lt_trans hvp.1 hvp.2.1
  have lb := hvp.2.1
  have wia : atI (ws.map V.int) (pp.a : Int) = some (.int (wd ws pp.a)) := atI_nat (wd_at la)
  have wib : atI (ws.map V.int) (pp.b : Int) = some (.int (wd ws pp.b)) := atI_nat (wd_at lb)
  have fia : atI (f.map V.int) (pp.a : Int) = some (.int (wd f pp.a)) := atI_nat (wd_at (by omega))
  have fib : atI (f.map V.int) (pp.b : Int) = some (.int (wd f pp.b)) := atI_nat (wd_at (by omega))
  have ba := hvw.2.2 _ (wd_mem (ws := ws) (i := pp.a) la)
  have bb := hvw.2.2 _ (wd_mem (ws := ws) (i := pp.b) lb)
  refine ⟨_, rfl, _, rfl, a, _, 0, _, rfl, rfl, .inr ha, rfl, fa, _, _, _, rfl, rfl, .inr hf, fia, _, rfl, _, rfl, a, _, 0, _, rfl, rfl, .inr ha, rfl, wa, _, _, _, rfl, rfl, .inr hw, wia, _, _, rfl, ba.1, ba.2, fun t1 p1 q1 H1 L1 e1 h1 => ?_⟩
  refine ⟨_, rfl, _, rfl, a, _, 1, _, rfl, rfl, .inr (e1.sqT ha), rfl, fa, _, _, _, rfl, rfl, .inr (e1.sqT hf), fib, _, rfl, _, rfl, a, _, 1, _, rfl, rfl, .inr (e1.sqT ha), rfl, wa, _, _, _, rfl, rfl, .inr (e1.sqT hw), wib, _, _, rfl, bb.1, bb.2, fun t2 p2 q2 H2 L2 e2 h2 => ?_⟩
  refine ⟨_, rfl, _, rfl, t2, _, 0, _, rfl, rfl, .inr (tupOf h2), rfl, _, rfl, _, rfl, t2, _, 1, _, rfl, rfl, .inr (tupOf h2), rfl, (by show 2 ≤ sizeLine; decide), fun t3 ht3 => ?_⟩
  refine ⟨t1, t3, p1, q1, -p2, q2, rfl, (e2.trans (Ext.new ht3)).sqT (tupOf h1), tupOf upd_same, L1.1, L1.2.1, L2.1, L2.2.1, fun t p qq H' c1 c2 ce e3 h3 => ?_⟩
  refine q t p qq H' c1 c2 (drop_eq (fun x hx => (hvw.2.2 x hx).1) la lb L1 L2 ?_) ((e1.trans e2).trans ((Ext.new ht3).trans e3)) h3
  rw [ce, Int.neg_mul]
  rfl
abbrev s__law_flow : Stmt := top 73
abbrev N__law_flow : List Str := ["_law_steps_here", "_law_drop_here", "_law_found", "_law_step"]
theorem sc__law_flow : FnScope N__law_flow ["_law_steps_here", "_law_drop_here"] (C8.fnScope s__law_flow) := C8.fnScope_by (by decide +kernel)
def sp_lflow (K : PySem.W.Frag) : Sp := fun vs H Q _ => ∃ (v : V) (d : Addr) (ss : List (Int × Int)) (p q : Int), vs = [v, .ref d] ∧ At K H (dSteps ss) v ∧ VSteps ss ∧ H d = some (.tup [.int p, .int q]) ∧ 1 ≤ q ∧ q ≤ 144 ∧ Q (.int (flowL ss p q)) H
theorem c__law_flow (T : Txt K mg) : C8.Cal P w K mg base 1 "_law_flow" (sp_lflow K) [] := by
  refine calD T.d__law_flow sc__law_flow (fun vs H Q E ⟨u, v, p1, q1, p2, e, _⟩ => by rw [e]; rfl) fun f cdv A outer s H vs Q E hr h => ⟨_, (pss_cons (ps_set (i := 2) sc__law_flow.nd rfl (Or.inl rfl) pe_int)
    (pss_cons (ps_for PassesOwn.never rfl (pi_tup (pv 0)) (pg_name (i := 3) sc__law_flow.nd rfl (Or.inl rfl))
      (pss_one (ps_if (pt_cmpR op_le (pe_op op_mul (pe_ix (ix_k (K := K) rfl) (pv 3) pe_int (fun _ _ => rfl)) (pe_ix (ix_k (K := K) rfl) (pv 1) pe_int (fun _ _ => rfl))) (pe_op op_mul (pe_callB call_abs (by rfl) T.z_abs (by decide +kernel) (pa_cons (pe_ix (ix_k (K := K) rfl) (pv 1) pe_int (fun _ _ => rfl)) pa_nil)) (pe_ix (ix_k (K := K) rfl) (pv 3) pe_int (fun _ _ => rfl))) (nomark _)) (pss_one (ps_set (i := 2) sc__law_flow.nd rfl (Or.inl rfl) (pe_op op_add (pv 2) pe_int))) pss_nil)))
    (pss_cons (ps_if (pt_cmpR op_lt (pe_ix (ix_k (K := K) rfl) (pv 1) pe_int (fun _ _ => rfl)) pe_int (nomark _)) (pss_one (ps_ret (pe_un un_neg (pv 2)))) pss_nil)
    (pss_one (ps_ret (pv 2)))))), ?_⟩
  obtain ⟨v, d, ss, p, q, rfl, hat, ⟨l1, l2, hv, hs⟩, hd, b1, b2, qq⟩ := h
  obtain ⟨a, xs, rfl, ha, hx⟩ := hat
  have hl : xs.length = ss.length := by rw [hx.len, List.length_map]
  refine ⟨_, rfl, a, rfl, ⟨_, ha⟩, ?_⟩
  refine for_it (walk_tup (xs := xs)) (fun i σ H' => H' = H ∧ ∃ z : Option V, σ = [some (.ref a), some (.ref d), some (.int ((cntL (ss.take i) p q : Nat) : Int)), z]) ⟨rfl, none, rfl⟩ (fun i σ H' _ ⟨e, _⟩ => by rw [e]; exact ha) (fun i x σ H1 H2 hi ⟨e, z, es⟩ hy => ?_) fun σ H1 ⟨e, z, es⟩ => ?_
  · obtain ⟨rfl, hy⟩ := hy
    subst e es
    obtain ⟨dd, g1, g2⟩ := hx.get hy
    rw [List.getElem?_map] at g1
    cases es : ss[i]? with
    | none => rw [es] at g1; cases g1
    | some st =>
      rw [es] at g1
      obtain rfl : dStep st = dd := Option.some.inj g1
      obtain ⟨t, rfl, ht⟩ := at_step g2
      have vs := hv st (List.mem_of_getElem? es)
      have step : cntL (ss.take (i + 1)) p q = if st.1 * q ≤ iabs p * st.2 then cntL (ss.take i) p q + 1 else cntL (ss.take i) p q := by
        unfold cntL
        rw [List.take_add_one, es, List.filter_append, List.length_append]
        by_cases hc : st.1 * q ≤ iabs p * st.2
        · rw [if_pos hc]
          simp [hc]
        · rw [if_neg hc]
          simp [hc]
      refine ⟨_, rfl, t, _, 0, _, rfl, rfl, .inr ht, rfl, _, rfl, d, _, 1, _, rfl, rfl, .inr (tupOf hd), rfl, _, _, rfl, rfl, .inr ⟨by omega, by omega⟩, _, rfl, d, _, 0, _, rfl, rfl, .inr (tupOf hd), rfl, _, rfl, _, rfl, t, _, 1, _, rfl, rfl, .inr ht, rfl, _, _, rfl, rfl, .inr ⟨by have := vs.2.2.1; omega, by have := vs.2.2.2.1; omega⟩, _, _, rfl, rfl, _, rfl, ?_⟩
      show if decide (st.1 * q ≤ iabs p * st.2) = true then _ else _
      refine ifD (fun hc => ?_) fun hc => ?_
      · refine ⟨_, rfl, _, _, rfl, rfl, rfl, some (.ref t), ?_⟩
        rw [step, if_pos hc]
        rfl
      · refine ⟨rfl, some (.ref t), ?_⟩
        rw [step, if_neg hc]
        rfl
  · subst e es
    rw [hl, List.take_length]
    refine ⟨_, rfl, d, _, 0, _, rfl, rfl, .inr (tupOf hd), rfl, _, _, rfl, rfl, _, rfl, ifD (fun hc => ⟨_, rfl, _, rfl, ?_⟩) fun hc => ⟨_, rfl, ?_⟩⟩
    · unfold flowL at qq
      rw [if_pos hc] at qq
      exact qq
    · unfold flowL at qq
      rw [if_neg hc] at qq
      exact qq
end
end K14
end
section
/-! The law's mirror, walked: flows, nets, what is behind; the model. -/
namespace K14
open PySem PySem.Spec PyProof.Rows L2 RZ K14H
theorem getD_at {l : List Int} {i : Nat} {x : Int} (h : l[i]? = some x) : wd l i = x := by
  unfold wd
  rw [List.getD_eq_getElem?_getD, h] <;> rfl
theorem nums_at {ws f : List Int} {ps : List Pipe} {op : Option (List Int)} {i : Nat} {p : Pipe} (h : ps[i]? = some p) : (numsN ws ps f op)[i]? = some (if inO op i = true then flowP ws f p else 0) := by
  have hi := (List.getElem?_eq_some_iff.mp h).1
  have e : (ps.map (flowP ws f))[i]? = some (flowP ws f p) := by rw [List.getElem?_map, h] <;> rfl
  unfold numsN openN
  rw [List.getElem?_map, List.getElem?_range (by rw [List.length_map]; exact hi)]
  show some (if inO op i = true then wd (ps.map (flowP ws f)) i else 0) = _
  rw [getD_at e]
theorem flowP_L {ws f : List Int} {p : Pipe} {x y : Int} (hw : ∀ z ∈ ws, 0 ≤ z) (hp : VPipe ws.length p) (hy : 1 ≤ y) (e : drop ws f p * y = x * pg ws p) : flowP ws f p = flowL p.ss x y := by
  have w1 := hw _ (wd_mem (ws := ws) (i := p.a) (Nat.lt_trans hp.1 hp.2.1))
  have w2 := hw _ (wd_mem (ws := ws) (i := p.b) hp.2.1)
  exact flow_eq (grains_pos w1 w2) (by omega) e hp.2.2.2.2.1
section
variable {P : Program} {w : World} {K : PySem.W.Frag} {mg : Str → Option Value} {base : Heap}
abbrev s__law_flows : Stmt := top 82
abbrev N__law_flows : List Str := ["_law_widths_here", "_law_pipes_here", "_law_filling_here", "_law_opening_here", "_law_found", "_law_k"]
theorem sc__law_flows : FnScope N__law_flows ["_law_widths_here", "_law_pipes_here", "_law_filling_here", "_law_opening_here"] (C8.fnScope s__law_flows) := C8.fnScope_by (by decide +kernel)
def sp_lflows (K : PySem.W.Frag) : Sp := fun vs H Q _ => ∃ (wa pa fa : Addr) (v : V) (ws f : List Int) (ps : List Pipe) (op : Option (List Int)), vs = [.ref wa, .ref pa, .ref fa, v] ∧ Is K H wa ws ∧ VWidths ws ∧ At K H (.tup (ps.map dPipe)) (.ref pa) ∧ VPipes ws ps ∧ Is K H fa f ∧ f.length = ws.length ∧ At K H (dOp op) v ∧
  ∀ a H', Ext H H' → Is K H' a (numsN ws ps f op) → Q (.ref a) H'
theorem c__law_flows (T : Txt K mg) : C8.Cal P w K mg base 5 "_law_flows" (sp_lflows K) [] := by
  refine calD T.d__law_flows sc__law_flows (fun vs H Q E ⟨u, v, p1, q1, p2, q2, x, y, e, _⟩ => by rw [e]; rfl) fun f cdv A outer s H vs Q E hr h => ⟨_, (pss_cons (ps_set (i := 4) sc__law_flows.nd rfl (Or.inl rfl) (pe_lst pa_nil))
    (pss_cons (ps_for PassesOwn.never rfl (pi_range1 (by rfl) T.z_range (pa_cons (pe_callB call_len_seq (by rfl) T.z_len (by decide +kernel) (pa_cons (pv 1) pa_nil)) pa_nil)) (pg_name (i := 5) sc__law_flows.nd rfl (Or.inl rfl))
      (pss_one (ps_if (PW.pt (pw_or (pt_cmpR op_isN (pv 3) pe_non (nomark _)) (pw_or1 (pt_cmpR (op_inK (K := K) rfl) (pv 5) (pv 3) (by rfl))))) (pss_one (ps_expr (pe_bm PySem.F.plainAttrs_list PySem.F.slot_list_append PySem.F.type_list_append mt_append (pv 4) (pa_cons (C8.pe_c (c__law_flow T) hr (by decide) (by rfl) (pa_cons (pe_ix (ix_k (K := K) rfl) (pe_ix (ix_k (K := K) rfl) (pv 1) (pv 5) (fun _ _ => rfl)) pe_int (fun _ _ => rfl)) (pa_cons (C8.pe_c (c__law_drop T) hr (by decide) (by rfl) (pa_cons (pv 0) (pa_cons (pe_ix (ix_k (K := K) rfl) (pv 1) (pv 5) (fun _ _ => rfl)) (pa_cons (pv 2) pa_nil)))) pa_nil))) pa_nil)))) (pss_one (ps_expr (pe_bm PySem.F.plainAttrs_list PySem.F.slot_list_append PySem.F.type_list_append mt_append (pv 4) (pa_cons pe_int pa_nil)))))))
    (pss_one (ps_ret (pe_callTy call_tuple_of (by rfl) T.z_tuple (by decide +kernel) (pa_cons (pv 4) pa_nil)))))), ?_⟩
  obtain ⟨wa, pa, fa, v, ws, f, ps, op, rfl, hw, hvw, ⟨pa', xs, epa, hpa, hps⟩, hvp, hf, hfl, hop, q⟩ := h
  cases epa
  have hxl : xs.length = ps.length := by rw [hps.len, List.length_map]
  refine ⟨(by show 0 ≤ sizeLine; decide), fun L hL => ⟨_, rfl, pa, _, rfl, .inr ((Ext.new hL).sqT hpa), _, rfl, by omega, by have := hvp.1; omega, ?_⟩⟩
  have ev : ((xs.length : Nat) : Int).toNat = xs.length := Int.toNat_natCast _
  refine for_it (walk_range (lo := 0) (n := ((xs.length : Nat) : Int).toNat)) (fun i σ H' => ∃ (z : Option V), Ext H H' ∧ i ≤ ps.length ∧ H' L = some (.lst (((numsN ws ps f op).take i).map .int)) ∧ σ = [some (.ref wa), some (.ref pa), some (.ref fa), some v, some (.ref L), z]) ⟨none, Ext.new hL, Nat.zero_le _, upd_same, rfl⟩ (fun _ _ _ _ _ => trivial) (fun i x σ H1 H2 hi ⟨z, e, _, hl, es⟩ hy => ?_) fun σ H1 ⟨z, e, _, hl, es⟩ => ?_
  · obtain ⟨rfl, rfl⟩ := hy
    subst es
    have hi' : i < ps.length := by omega
    obtain ⟨p, hp⟩ : ∃ p, ps[i]? = some p := ⟨_, List.getElem?_eq_getElem hi'⟩
    obtain ⟨u, hu, hat⟩ := (hps.ext e).get' (i := i) (d := dPipe p) (by rw [List.getElem?_map, hp] <;> rfl)
    have hat2 := hat
    obtain ⟨a, su, rfl, ha, hss⟩ := at_pipe hat
    have vp := hvp.2 p (List.mem_of_getElem? hp)
    have hna := nums_at (ws := ws) (f := f) (op := op) hp
    have fin : ∀ (H5 : Hp) (y : Int), Ext H2 H5 → y = (if inO op i = true then flowP ws f p else 0) → ∃ (l : Addr) (zs : List V) (u : V), V.ref L = .ref l ∧ [V.int y] = [u] ∧ H5 l = some (.lst zs) ∧ zs.length < sizeLine ∧ ∃ (z : Option V), Ext H (upd H5 l (.lst (zs ++ [u]))) ∧ i + 1 ≤ ps.length ∧ (upd H5 l (.lst (zs ++ [u]))) L = some (.lst (((numsN ws ps f op).take (i + 1)).map .int)) ∧ ([some (V.ref wa), some (.ref pa), some (.ref fa), some v, some (.ref L), some (.int (0 + (i : Int)))] : L2.St) = [some (.ref wa), some (.ref pa), some (.ref fa), some v, some (.ref L), z] := by
      intro H5 y e5 hy
      refine ⟨L, _, _, rfl, rfl, e5 _ _ hl, ?_, _, fun b o q => ?_, hi', ?_, rfl⟩
      · rw [List.length_map]
        have := List.length_take_le i (numsN ws ps f op)
        exact small_line (by have := hvp.1; omega)
      · rw [upd_ne (ne_of_none q hL)]
        exact (e.trans e5) b o q
      · rw [upd_same, List.take_add_one, hna, List.map_append, hy] <;> rfl
    have tyL : ∀ (H5 : Hp), Ext H2 H5 → ∃ xs, SqL K H5 L xs := fun H5 e5 => ⟨_, lstOf (e5 _ _ hl)⟩
    have ixp : atI xs (0 + (i : Int)) = some (.ref a) := by
      rw [Int.zero_add]
      exact atI_nat hu
    -- the flow of an open pipe
    have opn : inO op i = true → tDrop (tBM K "list" rAppend (tVar 4) (tCons (tCall (sp_lflow K) [] C8.E0 (tCons (tOp (rIxQ K) (tOp (rIxQ K) (tVar 1) (tVar 5)) (tC (.int 2))) (tCons (tCall (sp_ldrop K) [] C8.E0 (tCons (tVar 0) (tCons (tOp (rIxQ K) (tVar 1) (tVar 5)) (tCons (tVar 2) tNil)))) tNil))) tNil))
        { nx := fun σ H' => ∃ (z : Option V), Ext H H' ∧ i + 1 ≤ ps.length ∧ H' L = some (.lst (((numsN ws ps f op).take (i + 1)).map .int)) ∧ σ = [some (.ref wa), some (.ref pa), some (.ref fa), some v, some (.ref L), z], rt := fun _ _ => False } [some (.ref wa), some (.ref pa), some (.ref fa), some v, some (.ref L), some (.int (0 + (i : Int)))] H2 := by
      intro ho
      refine ⟨_, rfl, .inl ⟨rfl, tyL _ (Ext.refl _)⟩, _, rfl, _, rfl, pa, xs, _, _, rfl, rfl, .inr (e.sqT hpa), ixp, a, _, 2, _, rfl, rfl, .inr ha, rfl, _, rfl, _, rfl, _, rfl, pa, xs, _, _, rfl, rfl, .inr (e.sqT hpa), ixp, _, rfl, wa, fa, .ref a, ws, f, p, rfl, e.sqT hw, hvw, e.sqT hf, hfl, hat2, vp, fun t x y H5 c1 c2 ce e5 h5 => ?_⟩
      refine ⟨su, t, p.ss, x, y, rfl, hss.ext e5, vp.2.2, h5, c1, c2, fin H5 _ e5 ?_⟩
      rw [if_pos ho]
      exact (flowP_L (fun z hz => (hvw.2.2 z hz).1) vp c1 ce).symm
    rcases at_op (hop.ext e) with ⟨rfl, rfl⟩ | ⟨l, la, rfl, rfl, hla⟩
    · refine ⟨_, rfl, rfl, _, rfl, ?_⟩
      exact opn rfl
    · refine ⟨_, rfl, rfl, _, rfl, _, rfl, _, rfl, la, _, rfl, .inr hla, rfl, ?_, _, rfl, ?_⟩
      · rw [List.all_map]
        exact List.all_eq_true.mpr fun _ _ => rfl
      · show if inV (.int (0 + (i : Int))) (l.map V.int) = true then _ else _
        rw [Int.zero_add, inV_ints]
        by_cases hc : (l.any fun y => y == (i : Int)) = true
        · rw [if_pos hc]
          exact opn hc
        · rw [if_neg hc]
          exact ⟨_, rfl, .inl ⟨rfl, tyL _ (Ext.refl _)⟩, fin H2 0 (Ext.refl _) (by unfold inO; rw [if_neg hc])⟩
  · subst es
    rw [ev, hxl] at hl
    have e2 : (numsN ws ps f op).take ps.length = numsN ws ps f op := by
      rw [← nums_len ws ps f op, List.take_length]
    rw [e2] at hl
    exact ⟨_, rfl, L, _, rfl, .inl ⟨lstOf hl, fun t ht => q t _ (e.trans (Ext.new ht)) (tupOf upd_same)⟩⟩
end
end K14
end
section
/-! The law's mirror, walked: nets, what is behind, amounts. -/
namespace K14
open PySem PySem.Spec PyProof.Rows L2 RZ K14H
section
variable {P : Program} {w : World} {K : PySem.W.Frag} {mg : Str → Option Value} {base : Heap}
abbrev s__law_nets : Stmt := top 83
abbrev N__law_nets : List Str := ["_law_vessels", "_law_pipes_here", "_law_numbers", "_law_found", "_law_k"]
theorem sc__law_nets : FnScope N__law_nets ["_law_vessels", "_law_pipes_here", "_law_numbers"] (C8.fnScope s__law_nets) := C8.fnScope_by (by decide +kernel)
def sp_lnets (K : PySem.W.Frag) : Sp := fun vs H Q _ => ∃ (n : Nat) (pa na : Addr) (ps : List Pipe) (xs : List Int), vs = [.int (n : Int), .ref pa, .ref na] ∧ n ≤ 12 ∧ At K H (.tup (ps.map dPipe)) (.ref pa) ∧ (∀ p ∈ ps, p.a < n ∧ p.b < n) ∧ ps.length ≤ 36 ∧ Is K H na xs ∧ xs.length = ps.length ∧ ∀ a H', Ext H H' → Is K H' a (netsN n ps xs) → Q (.ref a) H'
theorem c__law_nets (T : Txt K mg) : C8.Cal P w K mg base 1 "_law_nets" (sp_lnets K) [] := by
  refine calD T.d__law_nets sc__law_nets (fun vs H Q E ⟨u, v, p1, q1, p2, e, _⟩ => by rw [e]; rfl) fun f cdv A outer s H vs Q E hr h => ⟨_, (pss_cons (ps_set (i := 3) sc__law_nets.nd rfl (Or.inl rfl) (pe_op op_rep (pe_lst (pa_cons pe_int pa_nil)) (pv 0)))
    (pss_cons (ps_for PassesOwn.never rfl (pi_range1 (by rfl) T.z_range (pa_cons (pe_callB call_len_seq (by rfl) T.z_len (by decide +kernel) (pa_cons (pv 1) pa_nil)) pa_nil)) (pg_name (i := 4) sc__law_nets.nd rfl (Or.inl rfl))
      (pss_cons (ps_asg (pe_op op_add (pe_ix (ix_k (K := K) rfl) (pv 3) (pe_ix (ix_k (K := K) rfl) (pe_ix (ix_k (K := K) rfl) (pv 1) (pv 4) (fun _ _ => rfl)) pe_int (fun _ _ => rfl)) (fun _ _ => rfl)) (pe_ix (ix_k (K := K) rfl) (pv 2) (pv 4) (fun _ _ => rfl))) (pg_sub (pv 3) (pe_ix (ix_k (K := K) rfl) (pe_ix (ix_k (K := K) rfl) (pv 1) (pv 4) (fun _ _ => rfl)) pe_int (fun _ _ => rfl)) set_list))
    (pss_one (ps_asg (pe_op op_sub (pe_ix (ix_k (K := K) rfl) (pv 3) (pe_ix (ix_k (K := K) rfl) (pe_ix (ix_k (K := K) rfl) (pv 1) (pv 4) (fun _ _ => rfl)) pe_int (fun _ _ => rfl)) (fun _ _ => rfl)) (pe_ix (ix_k (K := K) rfl) (pv 2) (pv 4) (fun _ _ => rfl))) (pg_sub (pv 3) (pe_ix (ix_k (K := K) rfl) (pe_ix (ix_k (K := K) rfl) (pv 1) (pv 4) (fun _ _ => rfl)) pe_int (fun _ _ => rfl)) set_list)))))
    (pss_one (ps_ret (pe_callTy call_tuple_of (by rfl) T.z_tuple (by decide +kernel) (pa_cons (pv 3) pa_nil)))))), ?_⟩
  obtain ⟨n, pa, na, ps, xs, rfl, hn, ⟨pa', ys, epa, hpa, hps⟩, hab, hpl, hna, hxl, q⟩ := h
  cases epa
  have hyl : ys.length = ps.length := by rw [hps.len, List.length_map]
  refine ⟨by show 1 ≤ sizeLine; decide, fun L0 hL0 => ?_⟩
  have eA : Ext H (upd H L0 (.lst [.int 0])) := Ext.new hL0
  refine ⟨_, rfl, L0, _, _, rfl, rfl, upd_same, by omega, by omega, ?_, fun L hL => ?_⟩
  · rw [Int.toNat_natCast]
    exact Nat.le_of_lt (small_line (by show 1 * n < 1000; omega))
  have e0 : (List.replicate ((n : Int)).toNat [V.int 0]).flatten = (nets (List.replicate n 0) ps xs 0).map V.int := by
    show _ = (List.replicate n (0 : Int)).map V.int
    rw [Int.toNat_natCast, List.flatten_replicate_singleton, List.map_replicate]
  rw [e0]
  have eB : Ext H (upd (upd H L0 (.lst [.int 0])) L (.lst ((nets (List.replicate n 0) ps xs 0).map V.int))) := eA.trans (Ext.new hL)
  have hLH : H L = none := eA.out hL
  have ev : ((ys.length : Nat) : Int).toNat = ys.length := Int.toNat_natCast _
  refine ⟨_, rfl, pa, _, rfl, .inr (eB.sqT hpa), _, rfl, by omega, by omega, ?_⟩
  refine for_it (walk_range (lo := 0) (n := ((ys.length : Nat) : Int).toNat)) (fun i σ H' => ∃ (z : Option V), Ext H H' ∧ i ≤ ps.length ∧ H' L = some (.lst ((nets (List.replicate n 0) ps xs i).map .int)) ∧ σ = [some (.int n), some (.ref pa), some (.ref na), some (.ref L), z]) ⟨none, eB, Nat.zero_le _, upd_same, rfl⟩ (fun _ _ _ _ _ => trivial) (fun i x σ H1 H2 hi ⟨z, e, _, hl, es⟩ hy => ?_) fun σ H1 ⟨z, e, _, hl, es⟩ => ?_
  · obtain ⟨rfl, rfl⟩ := hy
    subst es
    have hi' : i < ps.length := by omega
    obtain ⟨p, hp⟩ : ∃ p, ps[i]? = some p := ⟨_, List.getElem?_eq_getElem hi'⟩
    obtain ⟨u, hu, hat⟩ := (hps.ext e).get' (i := i) (d := dPipe p) (by rw [List.getElem?_map, hp] <;> rfl)
    obtain ⟨a, su, rfl, ha, hss⟩ := at_pipe hat
    have lp := hab p (List.mem_of_getElem? hp)
    have nl := nets_len (n := n) (ps := ps) (xs := xs) i
    have ixp : atI ys (0 + (i : Int)) = some (.ref a) := by
      rw [Int.zero_add]
      exact atI_nat hu
    have ixn : atI (xs.map V.int) (0 + (i : Int)) = some (.int (wd xs i)) := by
      rw [Int.zero_add]
      exact atI_nat (wd_at (by omega))
    have hq := e.sqT hpa
    have hnq := e.sqT hna
    have hla : ((nets (List.replicate n 0) ps xs i).map V.int)[p.a]? = some (.int (wd (nets (List.replicate n 0) ps xs i) p.a)) := wd_at (by omega)
    refine ⟨_, rfl, _, rfl, _, rfl, pa, ys, _, _, rfl, rfl, .inr hq, ixp, a, _, 0, _, rfl, rfl, .inr ha, rfl, L, _, _, _, rfl, rfl, .inl (lstOf hl), atI_nat hla, _, rfl, _, rfl, na, _, _, _, rfl, rfl, .inr hnq, ixn, _, _, rfl, rfl, ?_⟩
    refine ⟨_, rfl, _, rfl, _, rfl, pa, ys, _, _, rfl, rfl, .inr hq, ixp, a, _, 0, _, rfl, rfl, .inr ha, rfl, L, _, _, p.a, rfl, rfl, hl, ixN_nat (by rw [List.length_map, nl]; exact lp.1), ?_⟩
    have nL : ∀ {o : HO} {b : Addr} {ys : List V}, SqT K H2 b ys → SqT K (upd H2 L o) b ys := fun {o b ys} h => (Tk.upd hl trivial).sqT h
    have hlb : (((nets (List.replicate n 0) ps xs i).map V.int).set p.a (.int (wd (nets (List.replicate n 0) ps xs i) p.a + wd xs i)))[p.b]? = some (.int (wd ((nets (List.replicate n 0) ps xs i).set p.a (wd (nets (List.replicate n 0) ps xs i) p.a + wd xs i)) p.b)) := by
      rw [set_ints]
      exact wd_at (by rw [List.length_set]; omega)
    refine ⟨_, rfl, _, rfl, _, rfl, pa, ys, _, _, rfl, rfl, .inr (nL hq), ixp, a, _, 1, _, rfl, rfl, .inr (nL ha), rfl, L, _, _, _, rfl, rfl, .inl (lstOf upd_same), atI_nat hlb, _, rfl, _, rfl, na, _, _, _, rfl, rfl, .inr (nL hnq), ixn, _, _, rfl, rfl, ?_⟩
    refine ⟨_, rfl, _, rfl, _, rfl, pa, ys, _, _, rfl, rfl, .inr (nL hq), ixp, a, _, 1, _, rfl, rfl, .inr (nL ha), rfl, L, _, _, p.b, rfl, rfl, upd_same, ixN_nat (by rw [List.length_set, List.length_map, nl]; exact lp.2), ?_⟩
    rw [upd_upd]
    refine ⟨_, fun b o q => ?_, hi', ?_, rfl⟩
    · rw [upd_ne (ne_of_none q hLH)]
      exact e b o q
    · rw [upd_same]
      congr 2
      show (((nets (List.replicate n 0) ps xs i).map V.int).set p.a (.int (wd (nets (List.replicate n 0) ps xs i) p.a + wd xs i))).set p.b (.int (wd ((nets (List.replicate n 0) ps xs i).set p.a (wd (nets (List.replicate n 0) ps xs i) p.a + wd xs i)) p.b - wd xs i)) = (nets (List.replicate n 0) ps xs (i + 1)).map V.int
      rw [set_ints, set_ints]
      show _ = (match ps[i]? with | some p => netStep (nets (List.replicate n 0) ps xs i) p (wd xs i) | none => nets (List.replicate n 0) ps xs i).map V.int
      rw [hp] <;> rfl
  · subst es
    rw [ev, hyl] at hl
    exact ⟨_, rfl, L, _, rfl, .inl ⟨lstOf hl, fun t ht => q t _ (e.trans (Ext.new ht)) (tupOf upd_same)⟩⟩
abbrev s__law_behind : Stmt := top 84
abbrev N__law_behind : List Str := ["_law_widths_here", "_law_filling_here", "_law_lost", "_law_found", "_law_k"]
theorem sc__law_behind : FnScope N__law_behind ["_law_widths_here", "_law_filling_here", "_law_lost"] (C8.fnScope s__law_behind) := C8.fnScope_by (by decide +kernel)
def sp_lbehind (K : PySem.W.Frag) : Sp := fun vs H Q _ => ∃ (wa fa na : Addr) (ws f xs : List Int), vs = [.ref wa, .ref fa, .ref na] ∧ Is K H wa ws ∧ ws.length ≤ 12 ∧ Is K H fa f ∧ f.length = ws.length ∧ Is K H na xs ∧ xs.length = ws.length ∧ ∀ a H', Ext H H' → Is K H' a (movedN ws f xs) → Q (.ref a) H'
theorem c__law_behind (T : Txt K mg) : C8.Cal P w K mg base 1 "_law_behind" (sp_lbehind K) [] := by
  refine calD T.d__law_behind sc__law_behind (fun vs H Q E ⟨u, v, p1, q1, p2, x, e, _⟩ => by rw [e]; rfl) fun f cdv A outer s H vs Q E hr h => ⟨_, (pss_cons (ps_set (i := 3) sc__law_behind.nd rfl (Or.inl rfl) (pe_lst pa_nil))
    (pss_cons (ps_for PassesOwn.never rfl (pi_range1 (by rfl) T.z_range (pa_cons (pe_callB call_len_seq (by rfl) T.z_len (by decide +kernel) (pa_cons (pv 0) pa_nil)) pa_nil)) (pg_name (i := 4) sc__law_behind.nd rfl (Or.inl rfl))
      (pss_one (ps_if (pt_cmpR op_eq (pe_ix (ix_k (K := K) rfl) (pv 0) (pv 4) (fun _ _ => rfl)) pe_int (nomark _)) (pss_one (ps_expr (pe_bm PySem.F.plainAttrs_list PySem.F.slot_list_append PySem.F.type_list_append mt_append (pv 3) (pa_cons pe_int pa_nil)))) (pss_one (ps_expr (pe_bm PySem.F.plainAttrs_list PySem.F.slot_list_append PySem.F.type_list_append mt_append (pv 3) (pa_cons (pe_op op_sub (pe_ix (ix_k (K := K) rfl) (pv 1) (pv 4) (fun _ _ => rfl)) (pe_ix (ix_k (K := K) rfl) (pv 2) (pv 4) (fun _ _ => rfl))) pa_nil)))))))
    (pss_one (ps_ret (pe_callTy call_tuple_of (by rfl) T.z_tuple (by decide +kernel) (pa_cons (pv 3) pa_nil)))))), ?_⟩
  obtain ⟨wa, fa, na, ws, f, xs, rfl, hw, hwl, hf, hfl, hx, hxl, q⟩ := h
  refine ⟨(by show 0 ≤ sizeLine; decide), fun L hL => ⟨_, rfl, wa, _, rfl, .inr ((Ext.new hL).sqT hw), _, rfl, by omega, by rw [List.length_map]; omega, ?_⟩⟩
  have ev : (((ws.map V.int).length : Nat) : Int).toNat = ws.length := by rw [Int.toNat_natCast, List.length_map]
  refine for_it (walk_range (lo := 0) (n := (((ws.map V.int).length : Nat) : Int).toNat)) (fun i σ H' => ∃ (z : Option V), Ext H H' ∧ H' L = some (.lst (((movedN ws f xs).take i).map .int)) ∧ σ = [some (.ref wa), some (.ref fa), some (.ref na), some (.ref L), z]) ⟨none, Ext.new hL, upd_same, rfl⟩ (fun _ _ _ _ _ => trivial) (fun i x σ H1 H2 hi ⟨z, e, hl, es⟩ hy => ?_) fun σ H1 ⟨z, e, hl, es⟩ => ?_
  · obtain ⟨rfl, rfl⟩ := hy
    subst es
    have hi' : i < ws.length := by omega
    have hm : (movedN ws f xs)[i]? = some (if wd ws i = 0 then 0 else wd f i - wd xs i) := by
      unfold movedN
      rw [List.getElem?_map, List.getElem?_range hi'] <;> rfl
    have ix : ∀ {l : List Int}, i < l.length → atI (l.map V.int) (0 + (i : Int)) = some (.int (wd l i)) := fun {l} h => by
      rw [Int.zero_add]
      exact atI_nat (wd_at h)
    have fin : ∀ (y : Int), y = (if wd ws i = 0 then 0 else wd f i - wd xs i) → ∃ (l : Addr) (zs : List V) (u : V), V.ref L = .ref l ∧ [V.int y] = [u] ∧ H2 l = some (.lst zs) ∧ zs.length < sizeLine ∧ ∃ (z : Option V), Ext H (upd H2 l (.lst (zs ++ [u]))) ∧ (upd H2 l (.lst (zs ++ [u]))) L = some (.lst (((movedN ws f xs).take (i + 1)).map .int)) ∧ ([some (V.ref wa), some (.ref fa), some (.ref na), some (.ref L), some (.int (0 + (i : Int)))] : L2.St) = [some (.ref wa), some (.ref fa), some (.ref na), some (.ref L), z] := by
      intro y hy
      refine ⟨L, _, _, rfl, rfl, hl, ?_, _, fun b o q => ?_, ?_, rfl⟩
      · rw [List.length_map]
        have := List.length_take_le i (movedN ws f xs)
        exact small_line (by omega)
      · rw [upd_ne (ne_of_none q hL)]
        exact e b o q
      · rw [upd_same, List.take_add_one, hm, List.map_append, hy] <;> rfl
    refine ⟨_, rfl, _, rfl, wa, _, _, _, rfl, rfl, .inr (e.sqT hw), ix hi', rfl, _, rfl, ifV (fun h0 => ⟨_, rfl, .inl ⟨rfl, _, lstOf hl⟩, fin 0 (by rw [if_pos h0])⟩) fun h0 => ?_⟩
    exact ⟨_, rfl, .inl ⟨rfl, _, lstOf hl⟩, _, rfl, _, rfl, fa, _, _, _, rfl, rfl, .inr (e.sqT hf), ix (by omega), _, rfl, _, rfl, na, _, _, _, rfl, rfl, .inr (e.sqT hx), ix (by omega), _, _, rfl, rfl, fin _ (by rw [if_neg h0])⟩
  · subst es
    rw [ev, ← moved_len ws f xs, List.take_length] at hl
    exact ⟨_, rfl, L, _, rfl, .inl ⟨lstOf hl, fun t ht => q t _ (e.trans (Ext.new ht)) (tupOf upd_same)⟩⟩
abbrev s__law_amount : Stmt := top 85
abbrev N__law_amount : List Str := ["_law_numbers", "_law_number"]
theorem sc__law_amount : FnScope N__law_amount ["_law_numbers"] (C8.fnScope s__law_amount) := C8.fnScope_by (by decide +kernel)
def sp_lamount (K : PySem.W.Frag) : Sp := fun vs H Q _ => ∃ (na : Addr) (xs : List Int), vs = [.ref na] ∧ Is K H na xs ∧ xs.length < 1000 ∧ ∀ H', Ext H H' → Q (.int (amountN xs)) H'
theorem c__law_amount (T : Txt K mg) : C8.Cal P w K mg base 1 "_law_amount" (sp_lamount K) [] := by
  refine calD T.d__law_amount sc__law_amount (fun vs H Q E ⟨u, v, e, _⟩ => by rw [e]; rfl) fun f cdv A outer s H vs Q E hr h => ⟨_, (pss_one (ps_ret (pe_callB (cr_sum rfl) (by rfl) T.z_sum (by decide +kernel) (pa_cons (pe_lc (own := [("_law_number", 1)]) (g := (gName 1)) rfl sc__law_amount.nd (pi_tup (pv 0)) (blkOk_by (own := [("_law_number", 1)]) (N := N__law_amount) (sc := C8.fnScope s__law_amount) (by decide +kernel)) (fun _ _ _ _ _ => (pg_name (i := 1) sc__law_amount.nd rfl (Or.inl rfl))) (fun _ _ _ _ _ => pts_nil) (fun _ _ _ _ _ => (pe_callB call_abs (by rfl) T.z_abs (by decide +kernel) (pa_cons (pv 1) pa_nil)))) pa_nil)))), ?_⟩
  obtain ⟨na, xs, rfl, hx, hl, q⟩ := h
  refine ⟨_, rfl, na, rfl, ⟨_, hx⟩, fun D hD => ?_⟩
  refine lcX (walk_tup (xs := xs.map V.int)) hD (RFlat fun j => .int (iabs (wd xs j))) rfl (fun H' e' => e'.sqT hx) (fun j x H3 H4 acc2 hj e' q1 q2 q3 y2 => ?_) fun H3 acc2 e' q1 q2 q3 => ?_
  · obtain ⟨rfl, y2⟩ := y2
    have hj' : j < xs.length := by rw [List.length_map] at hj; exact hj
    rw [wd_at hj'] at y2
    obtain rfl := Option.some.inj y2
    exact ⟨rfl, _, rfl, _, rfl, lcFin hD q1 q2 (small_line (by omega)) e' (rflat q3 rfl)⟩
  · refine ⟨D, xs.map iabs, rfl, lstOf ?_, q _ e'⟩
    rw [q1, q3, List.length_map]
    congr 2
    rw [List.map_map]
    exact range_get xs _ _ fun j x hx => by
      show V.int (iabs (wd xs j)) = V.int (iabs x)
      rw [getD_at hx]
end
end K14
end
section
/-! The law's model. -/
namespace K14
open PySem PySem.Spec PyProof.Rows L2 RZ K14H
structure ModelAt (K : PySem.W.Frag) (H : Hp) (m l0 l1 l2 : Addr) (f0 : List Int) (R : List En) : Prop where
  hm : H m = some (.lst [.ref l0, .ref l1, .ref l2])
  h0 : ∃ xs, H l0 = some (.lst xs) ∧ Ats K H ((f0 :: R.map En.fil).map dInts) xs
  h1 : ∃ xs, H l1 = some (.lst xs) ∧ Ats K H (R.map fun e => dOp e.op) xs
  h2 : H l2 = some (.lst ((R.map fun e => amountN e.nums).map .int))
  ne : l0 ≠ l1 ∧ l0 ≠ l2 ∧ l1 ≠ l2 ∧ m ≠ l0 ∧ m ≠ l1 ∧ m ≠ l2
theorem pure_fils (l : List (List Int)) : pureDs (l.map dInts) = true := pures_of pure_ints l
theorem pure_ops (R : List En) : pureDs (R.map fun e => dOp e.op) = true := pures_of (f := fun e : En => dOp e.op) (fun e => pure_op e.op) R
theorem ModelAt.kp {K : PySem.W.Frag} {H H' : Hp} {m l0 l1 l2 : Addr} {f0 : List Int} {R : List En} {S : List Addr} (M : ModelAt K H m l0 l1 l2 f0 R) (k : Kp S H H') (t : Tk H H') (n : m ∉ S) (n0 : l0 ∉ S) (n1 : l1 ∉ S) (n2 : l2 ∉ S) : ModelAt K H' m l0 l1 l2 f0 R := by
  obtain ⟨xs, a1, a2⟩ := M.h0
  obtain ⟨ys, b1, b2⟩ := M.h1
  exact ⟨k _ _ M.hm n, ⟨xs, k _ _ a1 n0, a2.tk t (pure_fils _)⟩, ⟨ys, k _ _ b1 n1, b2.tk t (pure_ops R)⟩, k _ _ M.h2 n2, M.ne⟩
theorem ModelAt.e {K : PySem.W.Frag} {H H' : Hp} {m l0 l1 l2 : Addr} {f0 : List Int} {R : List En} (M : ModelAt K H m l0 l1 l2 f0 R) (e : Ext H H') : ModelAt K H' m l0 l1 l2 f0 R := M.kp (S := []) e.kp e.tk (by simp) (by simp) (by simp) (by simp)
theorem now_last (f0 : List Int) (R : List En) : (f0 :: R.map En.fil)[R.length]? = some (nowR f0 R) := by
  unfold nowR
  rcases List.eq_nil_or_concat R with h | ⟨R', e, h⟩
  · subst h
    rfl
  · subst h
    simp
section
variable {P : Program} {w : World} {K : PySem.W.Frag} {mg : Str → Option Value} {base : Heap}
theorem ModelAt.last {H : Hp} {m l0 l1 l2 : Addr} {f0 : List Int} {R : List En} (M : ModelAt K H m l0 l1 l2 f0 R) : ∃ xs a, H l0 = some (.lst xs) ∧ atI xs (-1) = some (.ref a) ∧ Is K H a (nowR f0 R) := by
  obtain ⟨xs, a1, a2⟩ := M.h0
  have hl : xs.length = R.length + 1 := by rw [a2.len, List.length_map, List.length_cons, List.length_map]
  obtain ⟨v, g1, g2⟩ := a2.get' (i := R.length) (d := dInts (nowR f0 R)) (by rw [List.getElem?_map, now_last] <;> rfl)
  obtain ⟨a, rfl, ha⟩ := at_ints g2
  exact ⟨xs, a, a1, atI_last (by rw [hl]; exact g1), ha⟩
abbrev s__law_twin : Stmt := top 86
abbrev N__law_twin : List Str := ["_law_model"]
theorem sc__law_twin : FnScope N__law_twin ["_law_model"] (C8.fnScope s__law_twin) := C8.fnScope_by (by decide +kernel)
def sp_twin (K : PySem.W.Frag) : Sp := fun vs H Q _ => ∃ (m l0 l1 l2 : Addr) (f0 : List Int) (R : List En), vs = [.ref m] ∧ ModelAt K H m l0 l1 l2 f0 R ∧ ∀ m' k0 k1 k2 H', Ext H H' → H m' = none → H k0 = none → H k1 = none → H k2 = none → ModelAt K H' m' k0 k1 k2 f0 R → Q (.ref m') H'
theorem c__law_twin (T : Txt K mg) : C8.Cal P w K mg base 1 "_law_twin" (sp_twin K) [] := by
  refine calD T.d__law_twin sc__law_twin (fun vs H Q E ⟨u, v, a, b, c, d, e, _⟩ => by rw [e]; rfl) fun f cdv A outer s H vs Q E hr h => ⟨_, (pss_one (ps_ret (pe_lst (pa_cons (pe_callTy call_list_of (by rfl) T.z_list (by decide +kernel) (pa_cons (pe_ix (ix_k (K := K) rfl) (pv 0) pe_int (fun _ _ => rfl)) pa_nil)) (pa_cons (pe_callTy call_list_of (by rfl) T.z_list (by decide +kernel) (pa_cons (pe_ix (ix_k (K := K) rfl) (pv 0) pe_int (fun _ _ => rfl)) pa_nil)) (pa_cons (pe_callTy call_list_of (by rfl) T.z_list (by decide +kernel) (pa_cons (pe_ix (ix_k (K := K) rfl) (pv 0) pe_int (fun _ _ => rfl)) pa_nil)) pa_nil)))))), ?_⟩
  obtain ⟨m, l0, l1, l2, f0, R, rfl, M, q⟩ := h
  obtain ⟨xs, a1, a2⟩ := M.h0
  obtain ⟨ys, b1, b2⟩ := M.h1
  refine ⟨_, rfl, m, _, 0, _, rfl, rfl, .inl (lstOf M.hm), rfl, l0, xs, rfl, .inl (lstOf a1), fun k0 hk0 => ?_⟩
  have e0 : Ext H (upd H k0 (.lst xs)) := Ext.new hk0
  refine ⟨_, rfl, m, _, 1, _, rfl, rfl, .inl (lstOf (e0 _ _ M.hm)), rfl, l1, ys, rfl, .inl (lstOf (e0 _ _ b1)), fun k1 hk1 => ?_⟩
  have e1 := e0.trans (Ext.new (o := .lst ys) hk1)
  refine ⟨_, rfl, m, _, 2, _, rfl, rfl, .inl (lstOf (e1 _ _ M.hm)), rfl, l2, _, rfl, .inl (lstOf (e1 _ _ M.h2)), fun k2 hk2 => ?_⟩
  have e2 := e1.trans (Ext.new (o := .lst ((R.map fun e => amountN e.nums).map .int)) hk2)
  refine ⟨by show 3 ≤ sizeLine; decide, fun m' hm' => ?_⟩
  have e3 := e2.trans (Ext.new (o := .lst [.ref k0, .ref k1, .ref k2]) hm')
  have g0 : upd (upd H k0 (.lst xs)) k1 (.lst ys) k0 = some (.lst xs) := (Ext.new hk1) _ _ upd_same
  have g0' := (Ext.new (o := .lst ((R.map fun e => amountN e.nums).map .int)) hk2) _ _ g0
  have g1' : upd (upd (upd H k0 (.lst xs)) k1 (.lst ys)) k2 (.lst ((R.map fun e => amountN e.nums).map .int)) k1 = some (.lst ys) := (Ext.new hk2) _ _ upd_same
  have g2' : upd (upd (upd H k0 (.lst xs)) k1 (.lst ys)) k2 (.lst ((R.map fun e => amountN e.nums).map .int)) k2 = some (.lst ((R.map fun e => amountN e.nums).map .int)) := upd_same
  have nn : ∀ {G : Hp} {x y : Addr} {o : HO}, G x = some o → G y = none → x ≠ y := fun {G x y o} h1 h2 z => by rw [z, h2] at h1; cases h1
  refine q m' k0 k1 k2 _ e3 (none_upd (none_upd (none_upd hm'))) hk0 (none_upd hk1) (none_upd (none_upd hk2)) ⟨upd_same, ⟨xs, (Ext.new hm') _ _ g0', a2.ext e3⟩, ⟨ys, (Ext.new hm') _ _ g1', b2.ext e3⟩, (Ext.new hm') _ _ g2', ?_⟩
  exact ⟨nn (G := upd H k0 (.lst xs)) upd_same hk1, nn g0 hk2, nn (G := upd (upd H k0 (.lst xs)) k1 (.lst ys)) upd_same hk2, (nn g0' hm').symm, (nn g1' hm').symm, (nn g2' hm').symm⟩
abbrev s__law_model_tick : Stmt := top 87
abbrev N__law_model_tick : List Str := ["_law_widths_here", "_law_pipes_here", "_law_model", "_law_opening_here", "_law_numbers", "_law_lost"]
theorem sc__law_model_tick : FnScope N__law_model_tick ["_law_widths_here", "_law_pipes_here", "_law_model", "_law_opening_here"] (C8.fnScope s__law_model_tick) := C8.fnScope_by (by decide +kernel)
def sp_mtick (K : PySem.W.Frag) : Sp := fun vs H Q _ => ∃ (wa pa m l0 l1 l2 : Addr) (v : V) (ws f0 : List Int) (ps : List Pipe) (R : List En) (op : Option (List Int)), vs = [.ref wa, .ref pa, .ref m, v] ∧ Is K H wa ws ∧ VWidths ws ∧ At K H (.tup (ps.map dPipe)) (.ref pa) ∧ VPipes ws ps ∧ ModelAt K H m l0 l1 l2 f0 R ∧ At K H (dOp op) v ∧ VFil ws f0 ∧ (∀ e ∈ R, VFil ws e.fil) ∧ R.length < 900 ∧
  ∀ a H', Kp [l0, l1, l2] H H' → Tk H H' → ModelAt K H' m l0 l1 l2 f0 (R ++ [enN ws ps (nowR f0 R) op]) → Is K H' a (numsN ws ps (nowR f0 R) op) → Q (.ref a) H'
theorem c__law_model_tick (T : Txt K mg) : C8.Cal P w K mg base 6 "_law_model_tick" (sp_mtick K) [] := by
  refine calD T.d__law_model_tick sc__law_model_tick (fun vs H Q E ⟨u, v, a, b, c, d, x1, x2, x3, x4, x5, x6, e, _⟩ => by rw [e]; rfl) fun f cdv A outer s H vs Q E hr h => ⟨_, (pss_cons (ps_set (i := 4) sc__law_model_tick.nd rfl (Or.inl rfl) (C8.pe_c (c__law_flows T) hr (by decide) (by rfl) (pa_cons (pv 0) (pa_cons (pv 1) (pa_cons (pe_ix (ix_k (K := K) rfl) (pe_ix (ix_k (K := K) rfl) (pv 2) pe_int (fun _ _ => rfl)) (pe_un un_neg pe_int) (fun _ _ => rfl)) (pa_cons (pv 3) pa_nil))))))
    (pss_cons (ps_set (i := 5) sc__law_model_tick.nd rfl (Or.inl rfl) (C8.pe_c (c__law_nets T) hr (by decide) (by rfl) (pa_cons (pe_callB call_len_seq (by rfl) T.z_len (by decide +kernel) (pa_cons (pv 0) pa_nil)) (pa_cons (pv 1) (pa_cons (pv 4) pa_nil)))))
    (pss_cons (ps_expr (pe_bm PySem.F.plainAttrs_list PySem.F.slot_list_append PySem.F.type_list_append mt_append (pe_ix (ix_k (K := K) rfl) (pv 2) pe_int (fun _ _ => rfl)) (pa_cons (C8.pe_c (c__law_behind T) hr (by decide) (by rfl) (pa_cons (pv 0) (pa_cons (pe_ix (ix_k (K := K) rfl) (pe_ix (ix_k (K := K) rfl) (pv 2) pe_int (fun _ _ => rfl)) (pe_un un_neg pe_int) (fun _ _ => rfl)) (pa_cons (pv 5) pa_nil)))) pa_nil)))
    (pss_cons (ps_expr (pe_bm PySem.F.plainAttrs_list PySem.F.slot_list_append PySem.F.type_list_append mt_append (pe_ix (ix_k (K := K) rfl) (pv 2) pe_int (fun _ _ => rfl)) (pa_cons (pv 3) pa_nil)))
    (pss_cons (ps_expr (pe_bm PySem.F.plainAttrs_list PySem.F.slot_list_append PySem.F.type_list_append mt_append (pe_ix (ix_k (K := K) rfl) (pv 2) pe_int (fun _ _ => rfl)) (pa_cons (C8.pe_c (c__law_amount T) hr (by decide) (by rfl) (pa_cons (pv 4) pa_nil)) pa_nil)))
    (pss_one (ps_ret (pv 4)))))))), ?_⟩
  obtain ⟨wa, pa, m, l0, l1, l2, v, ws, f0, ps, R, op, rfl, hw, hvw, hps, hvp, M, hop, hf0, hg, hR, q⟩ := h
  obtain ⟨xs, fa, a1, alast, hfa⟩ := M.last
  have hng := now_good hf0 hg
  obtain ⟨n01, n02, n12, nm0, nm1, nm2⟩ := M.ne
  refine ⟨_, rfl, _, rfl, _, rfl, m, _, 0, _, rfl, rfl, .inl (lstOf M.hm), rfl, _, rfl, l0, xs, _, _, rfl, rfl, .inl (lstOf a1), alast, _, rfl, wa, pa, fa, v, ws, nowR f0 R, ps, op, rfl, hw, hvw, hps, hvp, hfa, hng.1, hop, fun na H1 e1 hna => ?_⟩
  refine ⟨_, rfl, wa, _, rfl, .inr (e1.sqT hw), _, rfl, _, rfl, ws.length, pa, na, ps, _, ?_, hvw.2.1, hps.ext e1, fun p hp => ⟨Nat.lt_trans (hvp.2 p hp).1 (hvp.2 p hp).2.1, (hvp.2 p hp).2.1⟩, hvp.1, hna, nums_len _ _ _ _, fun la H2 e2 hla => ?_⟩
  · rw [List.length_map]
    rfl
  have e12 := e1.trans e2
  have M2 := M.e e12
  obtain ⟨xs2, a1', a2'⟩ := M2.h0
  obtain ⟨ys2, b1', b2'⟩ := M2.h1
  have hx2 : xs2.length = R.length + 1 := by rw [a2'.len, List.length_map, List.length_cons, List.length_map]
  have hy2 : ys2.length = R.length := by rw [b2'.len, List.length_map]
  have exs : xs2 = xs := by
    have z := e12 _ _ a1
    rw [a1'] at z
    cases z
    rfl
  subst exs
  -- the filling behind
  refine ⟨_, rfl, m, _, 0, _, rfl, rfl, .inl (lstOf M2.hm), rfl, .inl ⟨rfl, xs2, lstOf a1'⟩, _, rfl, _, rfl, m, _, 0, _, rfl, rfl, .inl (lstOf M2.hm), rfl, _, rfl, l0, xs2, _, _, rfl, rfl, .inl (lstOf a1'), alast, _, rfl, wa, fa, la, ws, nowR f0 R, _, rfl, e12.sqT hw, hvw.2.1, e12.sqT hfa, hng.1, hla, nets_len _, fun ba H3 e3 hba => ?_⟩
  have M3 := M2.e e3
  refine ⟨l0, xs2, _, rfl, rfl, e3 _ _ a1', small_line (by omega), ?_⟩
  generalize hH4 : upd H3 l0 (.lst (xs2 ++ [.ref ba])) = H4
  have t4 : Tk H3 H4 := by rw [← hH4]; exact Tk.upd (e3 _ _ a1') trivial
  have k4 : Kp [l0, l1, l2] H3 H4 := by rw [← hH4]; exact Kp.upd (by simp)
  have g4 : ∀ b, b ≠ l0 → H4 b = H3 b := fun b hb => by rw [← hH4, upd_ne hb]
  have hm4 : H4 m = some (.lst [.ref l0, .ref l1, .ref l2]) := (g4 m nm0).trans M3.hm
  have h14 : H4 l1 = some (.lst ys2) := (g4 l1 n01.symm).trans (e3 _ _ b1')
  -- the opening
  refine ⟨_, rfl, m, _, 1, _, rfl, rfl, .inl (lstOf hm4), rfl, .inl ⟨rfl, ys2, lstOf h14⟩, _, rfl, l1, ys2, v, rfl, rfl, h14, small_line (by omega), ?_⟩
  generalize hH5 : upd H4 l1 (.lst (ys2 ++ [v])) = H5
  have t5 : Tk H4 H5 := by rw [← hH5]; exact Tk.upd h14 trivial
  have k5 : Kp [l0, l1, l2] H4 H5 := by rw [← hH5]; exact Kp.upd (by simp)
  have g5 : ∀ b, b ≠ l1 → H5 b = H4 b := fun b hb => by rw [← hH5, upd_ne hb]
  have hm5 : H5 m = some (.lst [.ref l0, .ref l1, .ref l2]) := (g5 m nm1).trans hm4
  have h25 : H5 l2 = some (.lst ((R.map fun e => amountN e.nums).map .int)) := (g5 l2 n12.symm).trans ((g4 l2 n02.symm).trans M3.h2)
  have tall : Tk H H5 := ((e12.trans e3).tk.trans t4).trans t5
  -- the amount
  refine ⟨_, rfl, m, _, 2, _, rfl, rfl, .inl (lstOf hm5), rfl, .inl ⟨rfl, _, lstOf h25⟩, _, rfl, na, _, rfl, (t5.sqT (t4.sqT ((e2.trans e3).sqT hna))), by rw [nums_len]; have := hvp.1; omega, fun H6 e6 => ?_⟩
  refine ⟨l2, _, _, rfl, rfl, e6 _ _ h25, small_line (by rw [List.length_map, List.length_map]; omega), ?_⟩
  have t7 : Tk H6 (upd H6 l2 (.lst ((R.map fun e => amountN e.nums).map V.int ++ [.int (amountN (numsN ws ps (nowR f0 R) op))]))) := Tk.upd (e6 _ _ h25) trivial
  have tend := (tall.trans e6.tk).trans t7
  have n1 : ∀ b o, H5 b = some o → b ≠ l2 → (upd H6 l2 (.lst ((R.map fun e => amountN e.nums).map V.int ++ [.int (amountN (numsN ws ps (nowR f0 R) op))]))) b = some o := fun b o h n => by
    rw [upd_ne n]
    exact e6 _ _ h
  have hna' : Is K (upd H6 l2 (.lst ((R.map fun e => amountN e.nums).map V.int ++ [.int (amountN (numsN ws ps (nowR f0 R) op))]))) na (numsN ws ps (nowR f0 R) op) := t7.sqT (e6.sqT (t5.sqT (t4.sqT ((e2.trans e3).sqT hna))))
  refine ⟨_, rfl, q na _ ((((e12.trans e3).kp.trans k4).trans k5).trans (e6.kp.trans (Kp.upd (by simp)))) tend ⟨n1 _ _ hm5 nm2, ⟨xs2 ++ [.ref ba], n1 _ _ ?_ n02, ?_⟩, ⟨ys2 ++ [v], n1 _ _ ?_ n12, ?_⟩, ?_, M.ne⟩ hna'⟩
  · rw [g5 l0 n01, ← hH4, upd_same]
  · rw [List.map_append, ← List.cons_append, List.map_append]
    exact Ats.snoc (a2'.tk (((e3.tk.trans t4).trans t5).trans (e6.tk.trans t7)) (pure_fils _)) (ints_at (t7.sqT (e6.sqT (t5.sqT (t4.sqT hba)))))
  · rw [← hH5, upd_same]
  · rw [List.map_append]
    exact Ats.snoc (b2'.tk (((e3.tk.trans t4).trans t5).trans (e6.tk.trans t7)) (pure_ops R)) (hop.tk tend (pure_op op))
  · rw [upd_same, List.map_append, List.map_append]
    rfl
end
end K14
end
section
/-! The law's questions: the same, as the model, what a plan is due to tell. -/
namespace K14
open PySem PySem.Spec PyProof.Rows L2 RZ K14H
/-- a datum no deeper than n, no row of it longer than 999 -/
def Deep : Nat → D → Prop
  | 0, _ => False
  | n + 1, .tup l => l.length < 1000 ∧ ∀ d ∈ l, Deep n d
  | n + 1, .lst l => l.length < 1000 ∧ ∀ d ∈ l, Deep n d
  | _ + 1, _ => True
section
variable {P : Program} {w : World} {K : PySem.W.Frag} {mg : Str → Option Value} {base : Heap}
theorem tyLx {H : Hp} {a : Addr} {xs : List V} (h : SqL K H a xs) : TyX K H (.ref a) (.type "list") := by
  rcases h with (h | ⟨o, h⟩) | ⟨o, its, n, h, hc, _⟩
  · exact .base (.lst h)
  · exact .base (.frz h)
  · exact .kList h hc
theorem skipNe {i j : Int} {A B : Prop} (h : i = j) (b : B) : if (!decide (V.int i = V.int j)) = true then A else B := by
  rw [h, show decide (V.int j = V.int j) = true from decide_eq_true rfl]
  exact b
abbrev s__law_same : Stmt := top 70
abbrev N__law_same : List Str := ["_law_actual", "_law_expected", "_law_k"]
theorem sc__law_same : FnScope N__law_same ["_law_actual", "_law_expected"] (C8.fnScope s__law_same) := C8.fnScope_by (by decide +kernel)
def sp_same (K : PySem.W.Frag) (n : Nat) : Sp := fun vs H Q _ => ∃ (a b : V) (d : D), vs = [a, b] ∧ Deep n d ∧ At K H d a ∧ At K H d b ∧ Q (.bl true) H
theorem c__law_same (T : Txt K mg) : ∀ n, C8.Cal P w K mg base (n + 1) "_law_same" (sp_same K n) [] := by
  intro n
  induction n with
  | zero => exact calD T.d__law_same sc__law_same (fun vs H Q E ⟨a, b, d, e, _⟩ => by rw [e]; rfl) fun f cdv A outer s H vs Q E hr ⟨a, b, d, e, z, _⟩ => False.elim z
  | succ n ih =>
    refine calD T.d__law_same sc__law_same (fun vs H Q E ⟨a, b, d, e, _⟩ => by rw [e]; rfl) fun f cdv A outer s H vs Q E hr h => ⟨_, (pss_cons (ps_if (pt_cmpR op_isN (pv 1) pe_non (nomark _)) (pss_one (ps_ret (pe_cmpR op_isN (pv 0) pe_non (nomark _)))) pss_nil)
    (pss_cons (ps_if (pt_val (pe_callB call_isi (by rfl) T.z_isinstance (by decide +kernel) (pa_cons (pv 1) (pa_cons (pe_bltn (v := .ty "bool") (by rfl) T.z_bool (by decide +kernel) rfl) pa_nil)))) (pss_one (ps_ret (pe_and (pe_callB call_isi (by rfl) T.z_isinstance (by decide +kernel) (pa_cons (pv 0) (pa_cons (pe_bltn (v := .ty "bool") (by rfl) T.z_bool (by decide +kernel) rfl) pa_nil))) (pe_one (pe_cmpR op_eq (pv 0) (pv 1) (nomark _)))))) pss_nil)
    (pss_cons (ps_if (pt_val (pe_callB call_isi (by rfl) T.z_isinstance (by decide +kernel) (pa_cons (pv 1) (pa_cons (pe_bltn (v := .ty "int") (by rfl) T.z_int (by decide +kernel) rfl) pa_nil)))) (pss_one (ps_ret (pe_and (pe_callB call_isi (by rfl) T.z_isinstance (by decide +kernel) (pa_cons (pv 0) (pa_cons (pe_bltn (v := .ty "int") (by rfl) T.z_int (by decide +kernel) rfl) pa_nil))) (pe_and (pe_not (pe_callB call_isi (by rfl) T.z_isinstance (by decide +kernel) (pa_cons (pv 0) (pa_cons (pe_bltn (v := .ty "bool") (by rfl) T.z_bool (by decide +kernel) rfl) pa_nil)))) (pe_one (pe_cmpR op_eq (pv 0) (pv 1) (nomark _))))))) pss_nil)
    (pss_cons (ps_if (pt_val (pe_callB call_isi (by rfl) T.z_isinstance (by decide +kernel) (pa_cons (pv 1) (pa_cons (pe_bltn (v := .ty "str") (by rfl) T.z_str (by decide +kernel) rfl) pa_nil)))) (pss_one (ps_ret (pe_and (pe_callB call_isi (by rfl) T.z_isinstance (by decide +kernel) (pa_cons (pv 0) (pa_cons (pe_bltn (v := .ty "str") (by rfl) T.z_str (by decide +kernel) rfl) pa_nil))) (pe_one (pe_cmpR op_eq (pv 0) (pv 1) (nomark _)))))) pss_nil)
    (pss_cons (ps_if (PW.pt (pw_and (pt_val (pe_callB call_isi (by rfl) T.z_isinstance (by decide +kernel) (pa_cons (pv 1) (pa_cons (pe_bltn (v := .ty "tuple") (by rfl) T.z_tuple (by decide +kernel) rfl) pa_nil)))) (pw_and1 (pt_not (pt_val (pe_callB call_isi (by rfl) T.z_isinstance (by decide +kernel) (pa_cons (pv 0) (pa_cons (pe_bltn (v := .ty "tuple") (by rfl) T.z_tuple (by decide +kernel) rfl) pa_nil)))))))) (pss_one (ps_ret pe_bl)) pss_nil)
    (pss_cons (ps_if (PW.pt (pw_and (pt_val (pe_callB call_isi (by rfl) T.z_isinstance (by decide +kernel) (pa_cons (pv 1) (pa_cons (pe_bltn (v := .ty "list") (by rfl) T.z_list (by decide +kernel) rfl) pa_nil)))) (pw_and1 (pt_not (pt_val (pe_callB call_isi (by rfl) T.z_isinstance (by decide +kernel) (pa_cons (pv 0) (pa_cons (pe_bltn (v := .ty "list") (by rfl) T.z_list (by decide +kernel) rfl) pa_nil)))))))) (pss_one (ps_ret pe_bl)) pss_nil)
    (pss_cons (ps_if (pt_cmpR op_ne (pe_callB call_len_seq (by rfl) T.z_len (by decide +kernel) (pa_cons (pv 0) pa_nil)) (pe_callB call_len_seq (by rfl) T.z_len (by decide +kernel) (pa_cons (pv 1) pa_nil)) (nomark _)) (pss_one (ps_ret pe_bl)) pss_nil)
    (pss_cons (ps_for PassesOwn.never rfl (pi_range1 (by rfl) T.z_range (pa_cons (pe_callB call_len_seq (by rfl) T.z_len (by decide +kernel) (pa_cons (pv 1) pa_nil)) pa_nil)) (pg_name (i := 2) sc__law_same.nd rfl (Or.inl rfl))
      (pss_one (ps_if (pt_not (pt_val (C8.pe_c ih hr (Nat.le_refl _) (by rfl) (pa_cons (pe_ix (ix_k (K := K) rfl) (pv 0) (pv 2) (fun _ _ => rfl)) (pa_cons (pe_ix (ix_k (K := K) rfl) (pv 1) (pv 2) (fun _ _ => rfl)) pa_nil))))) (pss_one (ps_ret pe_bl)) pss_nil)))
    (pss_one (ps_ret pe_bl)))))))))), ?_⟩
    obtain ⟨a, b, d, rfl, hd, ha, hb, q⟩ := h
    have walk : ∀ {pa pb : Addr} {xs ys : List V} {l : List D}, (l.length < 1000 ∧ ∀ d ∈ l, Deep n d) → Ats K H l xs → Ats K H l ys → (SqL K H pa xs ∨ SqT K H pa xs) → (SqL K H pb ys ∨ SqT K H pb ys) → Q (.bl true) H → tSeq (tFor (iRng1 (tCons (tCB (fun xs H Q => ∃ p ys, xs = [V.ref p] ∧ (SqL K H p ys ∨ SqT K H p ys) ∧ Q (V.int ys.length) H) (tCons (tVar 1) tNil)) tNil)) (gName 2) (tIfS (tNot (tB (tCall (sp_same K n) [] C8.E0 (tCons (tOp (rIxQ K) (tVar 0) (tVar 2)) (tCons (tOp (rIxQ K) (tVar 1) (tVar 2)) tNil))))) (tRet (tC (.bl false))) tNext)) (tRet (tC (.bl true))) { nx := fun _ H' => Q .non H', rt := Q } (L2.start N__law_same [.ref pa, .ref pb]) H := by
      intro pa pb xs ys l hd hxs hys ha hb q
      have hxl := hxs.len
      have hyl := hys.len
      refine ⟨_, rfl, pb, ys, rfl, hb, _, rfl, by omega, by omega, ?_⟩
      refine for_it (walk_range (lo := 0) (n := ((ys.length : Nat) : Int).toNat)) (fun i σ H' => ∃ (z : Option V), H' = H ∧ σ = [some (.ref pa), some (.ref pb), z]) ⟨none, rfl, rfl⟩ (fun _ _ _ _ _ => trivial) (fun i x σ H1 H2 hi ⟨z, e, es⟩ hy => ?_) fun σ H1 ⟨z, e, es⟩ => ?_
      · obtain ⟨rfl, rfl⟩ := hy
        subst es e
        have hi' : i < l.length := by omega
        obtain ⟨d, hdi⟩ : ∃ d, l[i]? = some d := ⟨_, List.getElem?_eq_getElem hi'⟩
        obtain ⟨u, hu, hua⟩ := hxs.get' hdi
        obtain ⟨v, hv, hva⟩ := hys.get' hdi
        have ix : ∀ {zs : List V} {u : V}, zs[i]? = some u → atI zs (0 + (i : Int)) = some u := fun {zs u} h => by
          rw [Int.zero_add]
          exact atI_nat h
        exact ⟨_, rfl, _, rfl, pa, xs, _, _, rfl, rfl, ha, ix hu, _, rfl, _, rfl, pb, ys, _, _, rfl, rfl, hb, ix hv, u, v, d, rfl, hd.2 d (List.mem_of_getElem? hdi), hua, hva, _, rfl, _, rfl, rfl⟩
      · subst es e
        exact q
    cases d with
    | non =>
      have ha : a = .non := ha
      have hb : b = .non := hb
      subst ha hb
      exact ⟨_, rfl, rfl, _, rfl, _, rfl, rfl, q⟩
    | int i =>
      have ha : a = .int i := ha
      have hb : b = .int i := hb
      subst ha hb
      refine ⟨_, rfl, rfl, _, rfl, _, rfl, _, _, _, _, false, rfl, ClsV.ty _, TyX.base (TyOf.int _), kit_ty (by decide +kernel), _, rfl, _, rfl, _, _, _, _, true, rfl, ClsV.ty _, TyX.base (TyOf.int _), kit_ty (by decide +kernel), _, rfl, _, rfl, _, _, _, _, true, rfl, ClsV.ty _, TyX.base (TyOf.int _), kit_ty (by decide +kernel), _, rfl, _, rfl, _, _, _, _, false, rfl, ClsV.ty _, TyX.base (TyOf.int _), kit_ty (by decide +kernel), _, rfl, _, rfl, _, rfl, _, rfl, rfl, ?_⟩
      rw [show decide (V.int i = V.int i) = true from decide_eq_true rfl]
      exact q
    | str x =>
      have ha : a = .str x := ha
      have hb : b = .str x := hb
      subst ha hb
      refine ⟨_, rfl, rfl, _, rfl, _, rfl, _, _, _, _, false, rfl, ClsV.ty _, (.base (.str x)), kit_ty (by decide +kernel), _, rfl, _, rfl, _, _, _, _, false, rfl, ClsV.ty _, (.base (.str x)), kit_ty (by decide +kernel), _, rfl, _, rfl, _, _, _, _, true, rfl, ClsV.ty _, (.base (.str x)), kit_ty (by decide +kernel), _, rfl, _, rfl, _, _, _, _, true, rfl, ClsV.ty _, (.base (.str x)), kit_ty (by decide +kernel), _, rfl, _, rfl, _, rfl, rfl, ?_⟩
      rw [show decide (V.str x = V.str x) = true from decide_eq_true rfl]
      exact q
    | tup l =>
      obtain ⟨pa, xs, rfl, ha, hxs⟩ := ha
      obtain ⟨pb, ys, rfl, hb, hys⟩ := hb
      have hxl := hxs.len
      have hyl := hys.len
      refine ⟨_, rfl, rfl, _, rfl, _, rfl, _, _, _, _, false, rfl, ClsV.ty _, (tyT hb), kit_ty (by decide +kernel), _, rfl, _, rfl, _, _, _, _, false, rfl, ClsV.ty _, (tyT hb), kit_ty (by decide +kernel), _, rfl, _, rfl, _, _, _, _, false, rfl, ClsV.ty _, (tyT hb), kit_ty (by decide +kernel), _, rfl, _, rfl, _, _, _, _, true, rfl, ClsV.ty _, (tyT hb), kit_ty (by decide +kernel), _, rfl, _, rfl, _, _, _, _, true, rfl, ClsV.ty _, (tyT ha), kit_ty (by decide +kernel), _, rfl, _, rfl, _, _, _, _, false, rfl, ClsV.ty _, (tyT hb), kit_ty (by decide +kernel), _, rfl, _, rfl, pa, xs, rfl, .inr ha, _, rfl, pb, ys, rfl, .inr hb, rfl, _, rfl, skipNe (by omega) ?_⟩
      exact walk hd hxs hys (.inr ha) (.inr hb) q
    | lst l =>
      obtain ⟨pa, xs, rfl, ha, hxs⟩ := ha
      obtain ⟨pb, ys, rfl, hb, hys⟩ := hb
      have hxl := hxs.len
      have hyl := hys.len
      refine ⟨_, rfl, rfl, _, rfl, _, rfl, _, _, _, _, false, rfl, ClsV.ty _, (tyLx hb), kit_ty (by decide +kernel), _, rfl, _, rfl, _, _, _, _, false, rfl, ClsV.ty _, (tyLx hb), kit_ty (by decide +kernel), _, rfl, _, rfl, _, _, _, _, false, rfl, ClsV.ty _, (tyLx hb), kit_ty (by decide +kernel), _, rfl, _, rfl, _, _, _, _, false, rfl, ClsV.ty _, (tyLx hb), kit_ty (by decide +kernel), _, rfl, _, rfl, _, _, _, _, true, rfl, ClsV.ty _, (tyLx hb), kit_ty (by decide +kernel), _, rfl, _, rfl, _, _, _, _, true, rfl, ClsV.ty _, (tyLx ha), kit_ty (by decide +kernel), _, rfl, _, rfl, pa, xs, rfl, .inl ha, _, rfl, pb, ys, rfl, .inl hb, rfl, _, rfl, skipNe (by omega) ?_⟩
      exact walk hd hxs hys (.inl ha) (.inl hb) q
end
end K14
end
section
/-! The law's model put back, the model's question, the fields due. -/
namespace K14
open PySem PySem.Spec PyProof.Rows L2 RZ K14H
theorem ModelAt.drop {K : PySem.W.Frag} {H : Hp} {m l0 l1 l2 : Addr} {f0 : List Int} {R : List En} (M : ModelAt K H m l0 l1 l2 f0 R) (hn : R ≠ []) : ∃ xs ys, H l0 = some (.lst xs) ∧ H l1 = some (.lst ys) ∧ xs.length = R.length + 1 ∧ ys.length = R.length ∧ Ats K H ((f0 :: (R.dropLast).map En.fil).map dInts) xs.dropLast ∧ Ats K H (R.dropLast.map fun e => dOp e.op) ys.dropLast := by
  obtain ⟨xs, a1, a2⟩ := M.h0
  obtain ⟨ys, b1, b2⟩ := M.h1
  have hx : xs.length = R.length + 1 := by rw [a2.len, List.length_map, List.length_cons, List.length_map]
  have hy : ys.length = R.length := by rw [b2.len, List.length_map]
  have dl : ∀ {l : List D} {zs : List V}, Ats K H l zs → Ats K H l.dropLast zs.dropLast := fun {l zs} h => ats_of (by rw [List.length_dropLast, List.length_dropLast, h.len]) fun i d v e1 e2 => by
    rw [List.getElem?_dropLast] at e1 e2
    split at e1
    · rename_i hi
      rw [if_pos (by rw [h.len]; exact hi)] at e2
      obtain ⟨d', g1, g2⟩ := h.get e2
      rw [e1] at g1
      cases g1
      exact g2
    · cases e1
  refine ⟨xs, ys, a1, b1, hx, hy, ?_, ?_⟩
  · have := dl a2
    rw [show f0 :: R.dropLast.map En.fil = (f0 :: R.map En.fil).dropLast from ?_, List.map_dropLast]
    · exact this
    · rw [List.map_dropLast]
      cases R with
      | nil => exact absurd rfl hn
      | cons a r => rfl
  · rw [List.map_dropLast]
    exact dl b2
section
variable {P : Program} {w : World} {K : PySem.W.Frag} {mg : Str → Option Value} {base : Heap}
abbrev s__law_model_back : Stmt := top 88
abbrev N__law_model_back : List Str := ["_law_model", "_law_many", "_law_turn"]
theorem sc__law_model_back : FnScope N__law_model_back ["_law_model", "_law_many"] (C8.fnScope s__law_model_back) := C8.fnScope_by (by decide +kernel)
def sp_mback (K : PySem.W.Frag) : Sp := fun vs H Q _ => ∃ (m l0 l1 l2 : Addr) (f0 : List Int) (R : List En) (n : Nat), vs = [.ref m, .int (n : Int)] ∧ n ≤ R.length ∧ n < 1000 ∧ ModelAt K H m l0 l1 l2 f0 R ∧ ∀ H', Kp [l0, l1, l2] H H' → Tk H H' → ModelAt K H' m l0 l1 l2 f0 (R.take (R.length - n)) → Q .non H'
theorem c__law_model_back (T : Txt K mg) : C8.Cal P w K mg base 1 "_law_model_back" (sp_mback K) [] := by
  refine calD T.d__law_model_back sc__law_model_back (fun vs H Q E ⟨u, v, a, b, c, d, e, z, _⟩ => by rw [z]; rfl) fun f cdv A outer s H vs Q E hr h => ⟨_, (pss_one (ps_for PassesOwn.never rfl (pi_range1 (by rfl) T.z_range (pa_cons (pv 1) pa_nil)) (pg_name (i := 2) sc__law_model_back.nd rfl (Or.inl rfl))
      (pss_cons (ps_expr (pe_bm0 PySem.F.plainAttrs_list PySem.F.slot_list_pop PySem.F.type_list_pop mt_pop (pe_ix (ix_k (K := K) rfl) (pv 0) pe_int (fun _ _ => rfl))))
    (pss_cons (ps_expr (pe_bm0 PySem.F.plainAttrs_list PySem.F.slot_list_pop PySem.F.type_list_pop mt_pop (pe_ix (ix_k (K := K) rfl) (pv 0) pe_int (fun _ _ => rfl))))
    (pss_one (ps_expr (pe_bm0 PySem.F.plainAttrs_list PySem.F.slot_list_pop PySem.F.type_list_pop mt_pop (pe_ix (ix_k (K := K) rfl) (pv 0) pe_int (fun _ _ => rfl))))))))), ?_⟩
  obtain ⟨m, l0, l1, l2, f0, R, n, rfl, hn, hn2, M, q⟩ := h
  refine ⟨_, rfl, (n : Int), rfl, by omega, by omega, ?_⟩
  have ev : ((n : Int)).toNat = n := Int.toNat_natCast n
  refine for_it (walk_range (lo := 0) (n := ((n : Int)).toNat)) (fun i σ H' => ∃ (z : Option V), i ≤ n ∧ Kp [l0, l1, l2] H H' ∧ Tk H H' ∧ ModelAt K H' m l0 l1 l2 f0 (R.take (R.length - i)) ∧ σ = [some (.ref m), some (.int (n : Int)), z]) ⟨none, Nat.zero_le _, (Ext.refl H).kp, (Ext.refl H).tk, by rw [Nat.sub_zero, List.take_length]; exact M, rfl⟩ (fun _ _ _ _ _ => trivial) (fun i x σ H1 H2 hi ⟨z, _, k, t, M1, es⟩ hy => ?_) fun σ H1 ⟨z, _, k, t, M1, es⟩ => ?_
  · obtain ⟨rfl, rfl⟩ := hy
    subst es
    have hi' : i < n := by omega
    generalize eR : R.take (R.length - i) = R1 at M1
    have l1' : R1.length = R.length - i := by rw [← eR, List.length_take]; omega
    have hR1 : R1 ≠ [] := fun z => by rw [z] at l1'; simp at l1'; omega
    obtain ⟨xs, ys, a1, b1, hx, hy, a2, b2⟩ := M1.drop hR1
    obtain ⟨n01, n02, n12, nm0, nm1, nm2⟩ := M1.ne
    have e1 : R.take (R.length - (i + 1)) = R1.dropLast := by
      rw [← eR, List.dropLast_eq_take, List.take_take, List.length_take]
      congr 1
      omega
    refine ⟨_, rfl, m, _, 0, _, rfl, rfl, .inl (lstOf M1.hm), rfl, .inl ⟨rfl, xs, lstOf a1⟩, l0, xs, _, rfl, rfl, a1, List.getElem?_eq_getElem (by omega), ?_⟩
    generalize hH3 : upd H2 l0 (.lst xs.dropLast) = H3
    have t3 : Tk H2 H3 := by rw [← hH3]; exact Tk.upd a1 trivial
    have k3 : Kp [l0, l1, l2] H2 H3 := by rw [← hH3]; exact Kp.upd (by simp)
    have g3 : ∀ b, b ≠ l0 → H3 b = H2 b := fun b hb => by rw [← hH3, upd_ne hb]
    have hm3 := (g3 m nm0).trans M1.hm
    have b3 := (g3 l1 n01.symm).trans b1
    refine ⟨_, rfl, m, _, 1, _, rfl, rfl, .inl (lstOf hm3), rfl, .inl ⟨rfl, ys, lstOf b3⟩, l1, ys, _, rfl, rfl, b3, List.getElem?_eq_getElem (by omega), ?_⟩
    generalize hH4 : upd H3 l1 (.lst ys.dropLast) = H4
    have t4 : Tk H3 H4 := by rw [← hH4]; exact Tk.upd b3 trivial
    have k4 : Kp [l0, l1, l2] H3 H4 := by rw [← hH4]; exact Kp.upd (by simp)
    have g4 : ∀ b, b ≠ l1 → H4 b = H3 b := fun b hb => by rw [← hH4, upd_ne hb]
    have hm4 := (g4 m nm1).trans hm3
    have c4 : H4 l2 = some (.lst ((R1.map fun e => amountN e.nums).map .int)) := (g4 l2 n12.symm).trans ((g3 l2 n02.symm).trans M1.h2)
    refine ⟨_, rfl, m, _, 2, _, rfl, rfl, .inl (lstOf hm4), rfl, .inl ⟨rfl, _, lstOf c4⟩, l2, _, _, rfl, rfl, c4, List.getElem?_eq_getElem (by rw [List.length_map, List.length_map]; omega), ?_⟩
    have t5 : Tk H4 (upd H4 l2 (.lst ((R1.map fun e => amountN e.nums).map V.int).dropLast)) := Tk.upd c4 trivial
    have tt := (t3.trans t4).trans t5
    refine ⟨_, hi', ((k.trans k3).trans k4).trans (Kp.upd (by simp)), t.trans tt, ?_, rfl⟩
    rw [e1]
    refine ⟨(upd_ne nm2).trans hm4, ⟨xs.dropLast, (upd_ne n02).trans ((g4 l0 n01).trans ?_), a2.tk tt (pure_fils _)⟩, ⟨ys.dropLast, (upd_ne n12).trans ?_, b2.tk tt (pure_ops _)⟩, ?_, M.ne⟩
    · rw [← hH3, upd_same]
    · rw [← hH4, upd_same]
    · rw [upd_same, List.map_dropLast, List.map_dropLast]
  · subst es
    rw [ev] at M1
    exact q H1 k t M1
abbrev s__law_fields : Stmt := top 92
abbrev N__law_fields : List Str := ["_law_kind", "_law_part", "_law_fields_here"]
theorem sc__law_fields : FnScope N__law_fields ["_law_kind", "_law_part"] (C8.fnScope s__law_fields) := C8.fnScope_by (by decide +kernel)
def sp_fields (K : PySem.W.Frag) : Sp := fun vs H Q _ => ∃ (k : Nat) (x : Int), vs = [.int (k : Int), .int x] ∧ k ≤ 10 ∧ x.natAbs.log2 < 1920 ∧ ∀ v H', Ext H H' → At K H' (fldD k x) v → Q v H'
theorem c__law_fields (T : Txt K mg) : C8.Cal P w K mg base 1 "_law_fields" (sp_fields K) [] := by
  refine calD T.d__law_fields sc__law_fields (fun vs H Q E ⟨u, v, z, _⟩ => by rw [z]; rfl) fun f cdv A outer s H vs Q E hr h => ⟨_, (pss_cons (ps_set (i := 2) sc__law_fields.nd rfl (Or.inl rfl) (pe_lst (pa_cons (pv 1) (pa_cons (pe_tup (pa_cons (pv 1) (pa_cons (pe_tup (pa_cons (pv 1) (pa_cons pe_int pa_nil))) pa_nil))) (pa_cons (pe_tup (pa_cons (pv 1) pa_nil)) (pa_cons (pv 1) (pa_cons (pv 1) (pa_cons (pe_callTy call_str_int (by rfl) T.z_str (by decide +kernel) (pa_cons (pv 1) pa_nil)) (pa_cons (pv 1) (pa_cons (pe_lst (pa_cons (pv 1) pa_nil)) (pa_cons pe_non (pa_cons pe_int (pa_cons pe_int pa_nil)))))))))))))
    (pss_one (ps_ret (pe_ix (ix_k (K := K) rfl) (pv 2) (pv 0) (fun _ _ => rfl))))), ?_⟩
  obtain ⟨k, x, rfl, hk, hx, q⟩ := h
  refine ⟨_, rfl, _, rfl, _, rfl, (by show 2 ≤ sizeLine; decide), fun t1 h1 => ⟨(by show 2 ≤ sizeLine; decide), fun t2 h2 => ⟨_, rfl, (by show 1 ≤ sizeLine; decide), fun t3 h3 => ?_⟩⟩⟩
  refine ⟨_, rfl, _, rfl, _, rfl, x, rfl, hx, _, rfl, _, rfl, (by show 1 ≤ sizeLine; decide), fun t4 h4 => ⟨(by show 11 ≤ sizeLine; decide), fun t5 h5 => ?_⟩⟩
  have e5 := Ext.new (o := .lst [.int x, .ref t2, .ref t3, .int x, .int x, .str (toString x), .int x, .ref t4, .non, .int 0, .int 0]) h5
  have e4 := Ext.new (o := .lst [.int x]) h4
  have e3 := Ext.new (o := .tup [.int x]) h3
  have e2 := Ext.new (o := .tup [.int x, .ref t1]) h2
  have e1 := Ext.new (o := .tup [.int x, .int 1]) h1
  have ee := (((e1.trans e2).trans e3).trans e4).trans e5
  have rd : ∀ (v : V), atI [V.int x, .ref t2, .ref t3, .int x, .int x, .str (toString x), .int x, .ref t4, .non, .int 0, .int 0] (k : Int) = some v → At K (upd (upd (upd (upd (upd H t1 (.tup [.int x, .int 1])) t2 (.tup [.int x, .ref t1])) t3 (.tup [.int x])) t4 (.lst [.int x])) t5 (.lst [.int x, .ref t2, .ref t3, .int x, .int x, .str (toString x), .int x, .ref t4, .non, .int 0, .int 0])) (fldD k x) v → ∃ a xs i u, V.ref t5 = .ref a ∧ V.int (k : Int) = .int i ∧ (SqL K (upd (upd (upd (upd (upd H t1 (.tup [.int x, .int 1])) t2 (.tup [.int x, .ref t1])) t3 (.tup [.int x])) t4 (.lst [.int x])) t5 (.lst [.int x, .ref t2, .ref t3, .int x, .int x, .str (toString x), .int x, .ref t4, .non, .int 0, .int 0])) a xs ∨ SqT K (upd (upd (upd (upd (upd H t1 (.tup [.int x, .int 1])) t2 (.tup [.int x, .ref t1])) t3 (.tup [.int x])) t4 (.lst [.int x])) t5 (.lst [.int x, .ref t2, .ref t3, .int x, .int x, .str (toString x), .int x, .ref t4, .non, .int 0, .int 0])) a xs) ∧ atI xs i = some u ∧ Q u _ := fun v i1 i2 => ⟨t5, _, _, v, rfl, rfl, .inl (lstOf upd_same), i1, q v _ ee i2⟩
  have hk' : k = 0 ∨ k = 1 ∨ k = 2 ∨ k = 3 ∨ k = 4 ∨ k = 5 ∨ k = 6 ∨ k = 7 ∨ k = 8 ∨ k = 9 ∨ k = 10 := by omega
  refine ⟨_, rfl, _, rfl, ?_⟩
  rcases hk' with rfl | rfl | rfl | rfl | rfl | rfl | rfl | rfl | rfl | rfl | rfl
  · exact rd _ rfl rfl
  · exact rd _ rfl ⟨t2, _, rfl, ((e3.trans e4).trans e5).sqT (tupOf upd_same), _, _, rfl, rfl, _, _, rfl, ⟨t1, _, rfl, (((e2.trans e3).trans e4).trans e5).sqT (tupOf upd_same), _, _, rfl, rfl, _, _, rfl, rfl, rfl⟩, rfl⟩
  · exact rd _ rfl ⟨t3, _, rfl, (e4.trans e5).sqT (tupOf upd_same), _, _, rfl, rfl, rfl⟩
  · exact rd _ rfl rfl
  · exact rd _ rfl rfl
  · exact rd _ rfl rfl
  · exact rd _ rfl rfl
  · exact rd _ rfl ⟨t4, _, rfl, e5.sqL (lstOf upd_same), _, _, rfl, rfl, rfl⟩
  · exact rd _ rfl rfl
  · exact rd _ rfl rfl
  · exact rd _ rfl rfl
abbrev s__law_is_as : Stmt := top 89
abbrev N__law_is_as : List Str := ["_law_play", "_law_model"]
theorem sc__law_is_as : FnScope N__law_is_as ["_law_play", "_law_model"] (C8.fnScope s__law_is_as) := C8.fnScope_by (by decide +kernel)
/-- an entry as all of them are -/
def Fine (ws : List Int) (ps : List Pipe) (e : En) : Prop := VFil ws e.fil ∧ VOp ps.length e.op ∧ e.nums.length = ps.length
theorem lotB_len : ∀ {xs : List Int} {l n : Int}, lotB xs l n → l < n → (xs.length : Int) ≤ n - l - 1
  | [], l, n, _, h => by
    show (0 : Int) ≤ _
    omega
  | k :: r, l, n, ⟨h1, h2, h3⟩, h => by
    have := lotB_len h3 (by omega)
    show ((r.length + 1 : Nat) : Int) ≤ _
    omega
theorem deep_ints {is : List Int} (n : Nat) (h : is.length < 1000) : Deep (n + 2) (dInts is) := ⟨by rw [List.length_map]; exact h, fun d hd => by
  obtain ⟨i, _, rfl⟩ := List.mem_map.mp hd
  trivial⟩
theorem deep_op {m : Nat} {op : Option (List Int)} (n : Nat) (h : VOp m op) (hm : m ≤ 36) : Deep (n + 2) (dOp op) := by
  cases op with
  | none => trivial
  | some l =>
    have := lotB_len (h l rfl) (by omega)
    exact deep_ints n (by omega)
def sp_isas (K : PySem.W.Frag) : Sp := fun vs H Q _ => ∃ (B : Hp) (p l wb m l0 l1 l2 : Addr) (ws : List Int) (ps : List Pipe) (f0 : List Int) (R : List En), vs = [.ref p, .ref m] ∧ PlayAt K B H p l wb ws ps f0 R ∧ ModelAt K H m l0 l1 l2 f0 R ∧ R.length < 1000 ∧ (∀ e ∈ R, Fine ws ps e) ∧ ∀ H', Ext H H' → Q (.bl true) H'
theorem c__law_is_as (T : Txt K mg) : C8.Cal P w K mg base 6 "_law_is_as" (sp_isas K) [] := by
  refine calD T.d__law_is_as sc__law_is_as (fun vs H Q E ⟨B, u, v, a, b, c, d, e, x1, x2, x3, x4, z, _⟩ => by rw [z]; rfl) fun f cdv A outer s H vs Q E hr h => ⟨_, (pss_cons (ps_if (PW.pt (pw_or (pt_not (pt_val (C8.pe_c (c__law_same T 4) hr (by decide) (by rfl) (pa_cons (C8.pe_mt0 (m_now T) hr (by decide) (pv 0)) (pa_cons (pe_ix (ix_k (K := K) rfl) (pe_ix (ix_k (K := K) rfl) (pv 1) pe_int (fun _ _ => rfl)) (pe_un un_neg pe_int) (fun _ _ => rfl)) pa_nil))))) (pw_or1 (pt_not (pt_val (C8.pe_c (c__law_same T 4) hr (by decide) (by rfl) (pa_cons (C8.pe_mt0 (m_log T) hr (by decide) (pv 0)) (pa_cons (pe_ix (ix_k (K := K) rfl) (pv 1) pe_int (fun _ _ => rfl)) pa_nil)))))))) (pss_one (ps_ret pe_bl)) pss_nil)
    (pss_one (ps_ret (C8.pe_c (c__law_same T 4) hr (by decide) (by rfl) (pa_cons (C8.pe_mt0 (m_ran T) hr (by decide) (pv 0)) (pa_cons (pe_callB (cr_sum rfl) (by rfl) T.z_sum (by decide +kernel) (pa_cons (pe_ix (ix_k (K := K) rfl) (pv 1) pe_int (fun _ _ => rfl)) pa_nil)) pa_nil)))))), ?_⟩
  obtain ⟨B, p, l, wb, m, l0, l1, l2, ws, ps, f0, R, rfl, hP, M, hR, hF, q⟩ := h
  obtain ⟨dx, b, xs, h1, h2, h3, h4⟩ := hP.ex
  have hng := now_good hP.vf hP.good
  obtain ⟨ys, fa, a1, alast, hfa⟩ := M.last
  have n1 : (nowR f0 R).length < 1000 := by
    have := hP.vw.2.1
    rw [hng.1]
    omega
  refine ⟨_, rfl, p, dx, _, rfl, h1, rfl, B, p, l, wb, ws, ps, f0, R, rfl, hP, fun a ha => ?_⟩
  refine ⟨_, rfl, m, _, 0, _, rfl, rfl, .inl (lstOf M.hm), rfl, _, rfl, l0, ys, _, _, rfl, rfl, .inl (lstOf a1), alast, _, _, dInts (nowR f0 R), rfl, deep_ints 2 n1, ints_at ha, ints_at hfa, _, rfl, _, rfl, ?_⟩
  refine ⟨p, dx, _, rfl, h1, rfl, B, p, l, wb, ws, ps, f0, R, rfl, hP, hR, fun a2 xs2 H2 e2 hx2 hat2 => ?_⟩
  have M2 := M.e e2
  obtain ⟨zs, b1, b2⟩ := M2.h1
  have dR : Deep 4 (.lst (R.map fun e => dOp e.op)) := ⟨by rw [List.length_map]; exact hR, fun d hd => by
    obtain ⟨e, he, rfl⟩ := List.mem_map.mp hd
    exact deep_op 1 (hF e he).2.1 hP.vp.1⟩
  refine ⟨_, rfl, m, _, 1, _, rfl, rfl, .inl (lstOf M2.hm), rfl, _, _, _, rfl, dR, ⟨a2, xs2, rfl, lstOf hx2, hat2⟩, ⟨l1, zs, rfl, lstOf b1, b2⟩, _, rfl, ?_⟩
  refine ⟨_, rfl, p, dx, _, rfl, e2 _ _ h1, rfl, B, p, l, wb, ws, ps, f0, R, rfl, hP.e e2, hR, fun e he => ?_, fun H3 e3 => ?_⟩
  · have := (hF e he).2.2
    have := hP.vp.1
    omega
  · have M3 := M2.e e3
    exact ⟨_, rfl, m, _, 2, _, rfl, rfl, .inl (lstOf M3.hm), rfl, l2, _, rfl, lstOf M3.h2, _, _, .int (ranN R), rfl, trivial, rfl, rfl, q H3 (e2.trans e3)⟩
end
end K14
end
section
/-! What a plan is due to tell. -/
namespace K14
open PySem PySem.Spec PyProof.Rows L2 RZ K14H
inductive Out where
  | told (d : D)
  | raised (k : Nat) (d : D)
def dOut : Out → D
  | .told d => .tup [.str "told", d]
  | .raised k d => .tup [.str "raised", .int (k : Int), d]
def tksN (ws : List Int) (ps : List Pipe) (f0 : List Int) (R : List En) (ops : List (Option (List Int))) : List En := ops.foldl (fun R op => R ++ [enN ws ps (nowR f0 R) op]) R
def endD (f0 : List Int) (R : List En) (d : D) : D := .tup [dInts (nowR f0 R), .int (ranN R), .int (R.length : Int), d]
def endN (f0 : List Int) (R : List En) (pl : Plan) : Out → Out
  | .raised k d => .raised k d
  | .told d => if pl.ending < 11 then .raised pl.ending (fldD pl.ending pl.part) else .told (endD f0 R d)
def due0 (ws : List Int) (ps : List Pipe) (f0 : List Int) (R : List En) (pl : Plan) (inn : List En → Out) : Out :=
  if (tksN ws ps f0 R pl.ops).length < pl.back then .raised 11 (.int 0) else endN f0 ((tksN ws ps f0 R pl.ops).take ((tksN ws ps f0 R pl.ops).length - pl.back)) pl (inn ((tksN ws ps f0 R pl.ops).take ((tksN ws ps f0 R pl.ops).length - pl.back)))
def innN (ws : List Int) (ps : List Pipe) (f0 : List Int) : Option Plan → List En → Out
  | none => fun _ => .told .non
  | some pl2 => fun R2 => due0 ws ps f0 R2 pl2 fun _ => .told .non
def dueN (ws : List Int) (ps : List Pipe) (f0 : List Int) (R : List En) (pl : Plan) (wi : Option Plan) : Out := due0 ws ps f0 R pl (innN ws ps f0 wi)
theorem at_told {K : PySem.W.Frag} {H : Hp} {d : D} {v : V} (h : At K H (dOut (.told d)) v) : ∃ a u, v = .ref a ∧ SqT K H a [.str "told", u] ∧ At K H d u := by
  obtain ⟨a, xs, h1, h2, v1, r1, e1, h3, v2, r2, e2, h4, e3⟩ := h
  have h3 : v1 = .str "told" := h3
  have e3 : r2 = [] := e3
  subst h3 e3 e2 e1
  exact ⟨a, v2, h1, h2, h4⟩
theorem at_raised {K : PySem.W.Frag} {H : Hp} {k : Nat} {d : D} {v : V} (h : At K H (dOut (.raised k d)) v) : ∃ a u, v = .ref a ∧ SqT K H a [.str "raised", .int (k : Int), u] ∧ At K H d u := by
  obtain ⟨a, xs, h1, h2, v1, r1, e1, h3, v2, r2, e2, h4, v3, r3, e3, h5, e4⟩ := h
  have h3 : v1 = .str "raised" := h3
  have h4 : v2 = .int (k : Int) := h4
  have e4 : r3 = [] := e4
  subst h3 h4 e4 e3 e2 e1
  exact ⟨a, v3, h1, h2, h5⟩
theorem told_at {K : PySem.W.Frag} {H : Hp} {d : D} {a : Addr} {u : V} (h : SqT K H a [.str "told", u]) (hd : At K H d u) : At K H (dOut (.told d)) (.ref a) := ⟨a, _, rfl, h, _, _, rfl, rfl, _, _, rfl, hd, rfl⟩
theorem raised_at {K : PySem.W.Frag} {H : Hp} {k : Nat} {d : D} {a : Addr} {u : V} (h : SqT K H a [.str "raised", .int (k : Int), u]) (hd : At K H d u) : At K H (dOut (.raised k d)) (.ref a) := ⟨a, _, rfl, h, _, _, rfl, rfl, _, _, rfl, rfl, _, _, rfl, hd, rfl⟩
theorem tks_len (ws : List Int) (ps : List Pipe) (f0 : List Int) : ∀ (ops : List (Option (List Int))) (R : List En), (tksN ws ps f0 R ops).length = R.length + ops.length
  | [], R => rfl
  | op :: ops, R => by
    show (tksN ws ps f0 (R ++ [enN ws ps (nowR f0 R) op]) ops).length = _
    rw [tks_len ws ps f0 ops, List.length_append, List.length_cons, List.length_cons, List.length_nil]
    omega
theorem tks_snoc (ws : List Int) (ps : List Pipe) (f0 : List Int) (R : List En) (ops : List (Option (List Int))) (op : Option (List Int)) : tksN ws ps f0 R (ops ++ [op]) = tksN ws ps f0 R ops ++ [enN ws ps (nowR f0 (tksN ws ps f0 R ops)) op] := by
  unfold tksN
  rw [List.foldl_append] <;> rfl
theorem fine_en {ws : List Int} {ps : List Pipe} {f : List Int} {op : Option (List Int)} (h : VOp ps.length op) : Fine ws ps (enN ws ps f op) := ⟨vfil_moved _ _ _, h, nums_len _ _ _ _⟩
theorem tks_fine {ws : List Int} {ps : List Pipe} {f0 : List Int} : ∀ {ops : List (Option (List Int))} {R : List En}, (∀ e ∈ R, Fine ws ps e) → (∀ op ∈ ops, VOp ps.length op) → ∀ e ∈ tksN ws ps f0 R ops, Fine ws ps e
  | [], R, h, _ => h
  | op :: ops, R, h, ho => tks_fine (ops := ops) (R := R ++ [enN ws ps (nowR f0 R) op]) (fun e he => by
      rcases List.mem_append.mp he with z | z
      · exact h e z
      · rw [List.mem_singleton.mp z]
        exact fine_en (ho op List.mem_cons_self)) fun o h => ho o (List.mem_cons_of_mem _ h)
theorem PlanAt.e {K : PySem.W.Frag} {H H' : Hp} {v : V} {lo : Addr} {pl : Plan} (h : PlanAt K H v lo pl) (e : Ext H H') : PlanAt K H' v lo pl := by
  obtain ⟨a, xs, h1, h2, h3, h4⟩ := h
  exact ⟨a, xs, h1, e.sqT h2, e _ _ h3, h4.ext e⟩
section
variable {P : Program} {w : World} {K : PySem.W.Frag} {mg : Str → Option Value} {base : Heap}
abbrev s__law_plan_due : Stmt := top 95
abbrev N__law_plan_due : List Str := ["_law_widths_here", "_law_pipes_here", "_law_model", "_law_plan_here", "_law_within", "_law_led", "_law_opening_here", "_law_told"]
theorem sc__law_plan_due : FnScope N__law_plan_due ["_law_widths_here", "_law_pipes_here", "_law_model", "_law_plan_here", "_law_within"] (C8.fnScope s__law_plan_due) := C8.fnScope_by (by decide +kernel)
def WithinAt (K : PySem.W.Frag) (H : Hp) (n : Nat) (v : V) : Option Plan → Prop
  | none => v = .non
  | some pl => (∃ lo, PlanAt K H v lo pl) ∧ VPlan n pl
def limN : Option Plan → Nat
  | none => 600
  | some _ => 500
theorem lim_le (wi : Option Plan) : limN wi ≤ 600 := by
  cases wi
  · exact Nat.le_refl _
  · show 500 ≤ 600
    decide
def sp_pdue (K : PySem.W.Frag) (wi : Option Plan) : Sp := fun vs H Q _ => ∃ (wa pa m l0 l1 l2 lo : Addr) (pv wv : V) (ws f0 : List Int) (ps : List Pipe) (R : List En) (pl : Plan), vs = [.ref wa, .ref pa, .ref m, pv, wv] ∧ Is K H wa ws ∧ VWidths ws ∧ At K H (.tup (ps.map dPipe)) (.ref pa) ∧ VPipes ws ps ∧ ModelAt K H m l0 l1 l2 f0 R ∧ PlanAt K H pv lo pl ∧ VPlan ps.length pl ∧ WithinAt K H ps.length wv wi ∧ VFil ws f0 ∧ (∀ e ∈ R, Fine ws ps e) ∧ R.length < limN wi ∧
  ∀ v H', Ext H H' → At K H' (dOut (dueN ws ps f0 R pl wi)) v → Q v H'
theorem c_due_no (T : Txt K mg) : C8.Cal P w K mg base 1 "_law_plan_due" (fun _ _ _ _ => False) [] :=
  calD T.d__law_plan_due sc__law_plan_due (fun vs H Q E z => False.elim z) fun f cdv A outer s H vs Q E hr z => False.elim z
theorem due_body (T : Txt K mg) {k j : Nat} {sp : Sp} (hk : 6 ≤ k) (hk2 : j ≤ k) (wi : Option Plan) (ih : C8.Cal P w K mg base j "_law_plan_due" sp []) (hsp : ∀ pl, wi = some pl → sp = sp_pdue K none) (f : Addr) (cdv : Value) (A : Around) (outer : List Env) (s : Shared) (H : Hp) (vs : List V) (Q : VK) (E : XK)
    (hr : Room k (A.deeper (envOfC "_law_plan_due" (C8.fnScope s__law_plan_due) s.heap.objs.size f cdv))) (h : sp_pdue K wi vs H Q E) :
    ∃ t, PSs (cxOf C8.CX0 P w K mg base N__law_plan_due "_law_plan_due" (C8.fnScope s__law_plan_due) f cdv A outer s H E).nox (C8.fnBody s__law_plan_due) t ∧ t { nx := fun _ H' => Q .non H', rt := Q } (L2.start N__law_plan_due vs) H := by
  refine ⟨_, (pss_cons (ps_set (i := 5) sc__law_plan_due.nd rfl (Or.inl rfl) (C8.pe_c (c__law_twin T) hr (by omega) (by rfl) (pa_cons (pv 2) pa_nil)))
    (pss_cons (ps_for PassesOwn.never rfl (pi_list (pe_ix (ix_k (K := K) rfl) (pv 3) pe_int (fun _ _ => rfl))) (pg_name (i := 6) sc__law_plan_due.nd rfl (Or.inl rfl))
      (pss_one (ps_expr (C8.pe_c (c__law_model_tick T) hr hk (by rfl) (pa_cons (pv 0) (pa_cons (pv 1) (pa_cons (pv 5) (pa_cons (pv 6) pa_nil))))))))
    (pss_cons (ps_if (pt_cmpR op_gt (pe_ix (ix_k (K := K) rfl) (pv 3) pe_int (fun _ _ => rfl)) (pe_callB call_len_seq (by rfl) T.z_len (by decide +kernel) (pa_cons (pe_ix (ix_k (K := K) rfl) (pv 5) pe_int (fun _ _ => rfl)) pa_nil)) (nomark _)) (pss_one (ps_ret (pe_tup (pa_cons pe_str (pa_cons pe_int (pa_cons pe_int pa_nil)))))) pss_nil)
    (pss_cons (ps_expr (C8.pe_c (c__law_model_back T) hr (by omega) (by rfl) (pa_cons (pv 5) (pa_cons (pe_ix (ix_k (K := K) rfl) (pv 3) pe_int (fun _ _ => rfl)) pa_nil))))
    (pss_cons (ps_set (i := 7) sc__law_plan_due.nd rfl (Or.inl rfl) (pe_tup (pa_cons pe_str (pa_cons pe_non pa_nil))))
    (pss_cons (ps_if (pt_cmpR op_notN (pv 4) pe_non (nomark _)) (pss_one (ps_set (i := 7) sc__law_plan_due.nd rfl (Or.inl rfl) (C8.pe_c ih hr hk2 (by rfl) (pa_cons (pv 0) (pa_cons (pv 1) (pa_cons (pv 5) (pa_cons (pv 4) (pa_cons pe_non pa_nil)))))))) pss_nil)
    (pss_cons (ps_if (pt_cmpR op_eq (pe_ix (ix_k (K := K) rfl) (pv 7) pe_int (fun _ _ => rfl)) pe_str (nomark _)) (pss_one (ps_ret (pv 7))) pss_nil)
    (pss_cons (ps_if (pt_cmpR op_lt (pe_ix (ix_k (K := K) rfl) (pv 3) pe_int (fun _ _ => rfl)) pe_int (nomark _)) (pss_one (ps_ret (pe_tup (pa_cons pe_str (pa_cons (pe_ix (ix_k (K := K) rfl) (pv 3) pe_int (fun _ _ => rfl)) (pa_cons (C8.pe_c (c__law_fields T) hr (by omega) (by rfl) (pa_cons (pe_ix (ix_k (K := K) rfl) (pv 3) pe_int (fun _ _ => rfl)) (pa_cons (pe_ix (ix_k (K := K) rfl) (pv 3) pe_int (fun _ _ => rfl)) pa_nil))) pa_nil)))))) pss_nil)
    (pss_one (ps_ret (pe_tup (pa_cons pe_str (pa_cons (pe_tup (pa_cons (pe_ix (ix_k (K := K) rfl) (pe_ix (ix_k (K := K) rfl) (pv 5) pe_int (fun _ _ => rfl)) (pe_un un_neg pe_int) (fun _ _ => rfl)) (pa_cons (pe_callB (cr_sum rfl) (by rfl) T.z_sum (by decide +kernel) (pa_cons (pe_ix (ix_k (K := K) rfl) (pv 5) pe_int (fun _ _ => rfl)) pa_nil)) (pa_cons (pe_callB call_len_seq (by rfl) T.z_len (by decide +kernel) (pa_cons (pe_ix (ix_k (K := K) rfl) (pv 5) pe_int (fun _ _ => rfl)) pa_nil)) (pa_cons (pe_ix (ix_k (K := K) rfl) (pv 7) pe_int (fun _ _ => rfl)) pa_nil))))) pa_nil))))))))))))), ?_⟩
  obtain ⟨wa, pa, m, l0, l1, l2, lo, pv, wv, ws, f0, ps, R, pl, rfl, hw, hvw, hps, hvp, M, hpl, hvpl, hwi, hf0, hF, hR, q⟩ := h
  refine ⟨_, rfl, m, l0, l1, l2, f0, R, rfl, M, fun m' k0 k1 k2 H1 e1 nm n0 n1 n2 M1 => ?_⟩
  obtain ⟨pa', xs, rfl, hp1, hlo, hops⟩ := hpl
  have hxl : xs.length = pl.ops.length := by rw [hops.len, List.length_map]
  refine ⟨_, rfl, pa', _, 1, _, rfl, rfl, .inr (e1.sqT hp1), rfl, lo, rfl, ⟨xs, lstOf (e1 _ _ hlo)⟩, ?_⟩
  refine for_it (walk_list (xs := xs)) (fun i σ H' => ∃ (z : Option V), i ≤ pl.ops.length ∧ Ext H H' ∧ ModelAt K H' m' k0 k1 k2 f0 (tksN ws ps f0 R (pl.ops.take i)) ∧ σ = [some (.ref wa), some (.ref pa), some (.ref m), some (.ref pa'), some wv, some (.ref m'), z, none]) ⟨none, Nat.zero_le _, e1, M1, rfl⟩ (fun i σ H' _ ⟨z, _, e, _⟩ => e.sqL (lstOf hlo)) (fun i x σ H2 H3 hi ⟨z, hin, e, M2, es⟩ hy => ?_) fun σ H2 ⟨z, hin, e, M2, es⟩ => ?_
  · obtain ⟨rfl, hy⟩ := hy
    subst es
    have hi' : i < pl.ops.length := by omega
    obtain ⟨d, hd, hat⟩ := (hops.ext e).get hy
    obtain ⟨op, hop⟩ : ∃ op, pl.ops[i]? = some op := ⟨_, List.getElem?_eq_getElem hi'⟩
    rw [List.getElem?_map, hop] at hd
    obtain rfl : dOp op = d := Option.some.inj hd
    have hF2 := tks_fine (f0 := f0) (ops := pl.ops.take i) hF fun o h => hvpl.2.2.1 o (List.mem_of_mem_take h)
    have ol := hvpl.2.1
    have lm := lim_le wi
    refine ⟨_, rfl, _, rfl, _, rfl, _, rfl, wa, pa, m', k0, k1, k2, x, ws, f0, ps, _, op, rfl, e.sqT hw, hvw, hps.ext e, hvp, M2, hat, hf0, fun e he => (hF2 e he).1, ?_, fun a H4 k4 t4 M4 _ => ?_⟩
    · rw [tks_len, List.length_take]
      omega
    · refine ⟨_, hi', e.under k4 (fun s hs => ?_), ?_, rfl⟩
      · simp only [List.mem_cons, List.not_mem_nil, or_false] at hs
        rcases hs with rfl | rfl | rfl
        · exact n0
        · exact n1
        · exact n2
      · rw [List.take_add_one, hop]
        show ModelAt K H4 m' k0 k1 k2 f0 (tksN ws ps f0 R (pl.ops.take i ++ [op]))
        rw [tks_snoc]
        exact M4
  · subst es
    rw [hxl, List.take_length] at M2
    obtain ⟨ys, b1, b2⟩ := M2.h1
    have hyl : ys.length = (tksN ws ps f0 R pl.ops).length := by rw [b2.len, List.length_map]
    have hp2 := e.sqT hp1
    refine ⟨_, rfl, pa', _, 2, _, rfl, rfl, .inr hp2, rfl, _, rfl, m', _, 1, _, rfl, rfl, .inl (lstOf M2.hm), rfl, k1, ys, rfl, .inl (lstOf b1), _, _, rfl, rfl, _, rfl, ifD (fun hc => ?_) fun hc => ?_⟩
    · refine ⟨(by show 3 ≤ sizeLine; decide), fun t ht => q _ _ (e.trans (Ext.new ht)) ?_⟩
      have ed : dueN ws ps f0 R pl wi = .raised 11 (.int 0) := by
        unfold dueN due0
        rw [if_pos (by omega)]
      rw [ed]
      exact raised_at (tupOf upd_same) rfl
    · have hc2 : pl.back ≤ (tksN ws ps f0 R pl.ops).length := by omega
      generalize eR : (tksN ws ps f0 R pl.ops).take ((tksN ws ps f0 R pl.ops).length - pl.back) = R2
      have ed : dueN ws ps f0 R pl wi = endN f0 R2 pl (innN ws ps f0 wi R2) := by
        unfold dueN due0
        rw [if_neg (by omega), eR]
      have hF2 : ∀ e ∈ R2, Fine ws ps e := fun e he => by
        rw [← eR] at he
        exact tks_fine hF hvpl.2.2.1 e (List.mem_of_mem_take he)
      have hR2 : R2.length < limN wi + 10 := by
        have := hvpl.2.1
        have := tks_len ws ps f0 pl.ops R
        rw [← eR, List.length_take]
        omega
      -- the end, told out
      have fin : ∀ (H5 : Hp) (tv : V), Ext H H5 → ModelAt K H5 m' k0 k1 k2 f0 R2 → At K H5 (dOut (innN ws ps f0 wi R2)) tv → tSeq (tIfS (tTest (tOp rEq (tOp (rIxQ K) (tVar 7) (tC (V.int 0))) (tC (V.str (Str.ofString "raised"))))) (tRet (tVar 7)) tNext) (tSeq (tIfS (tTest (tOp (rI0 fun i j => V.bl (decide (i < j))) (tOp (rIxQ K) (tVar 3) (tC (V.int 3))) (tC (V.int 11)))) (tRet (tTup (tCons (tC (V.str (Str.ofString "raised"))) (tCons (tOp (rIxQ K) (tVar 3) (tC (V.int 3))) (tCons (tCall (sp_fields K) [] C8.E0 (tCons (tOp (rIxQ K) (tVar 3) (tC (V.int 3))) (tCons (tOp (rIxQ K) (tVar 3) (tC (V.int 4))) tNil))) tNil))))) tNext) (tRet (tTup (tCons (tC (V.str (Str.ofString "told"))) (tCons (tTup (tCons (tOp (rIxQ K) (tOp (rIxQ K) (tVar 5) (tC (V.int 0))) (tUn (rU fun i => V.int (-i)) (tC (V.int 1)))) (tCons (tCB (rSum K) (tCons (tOp (rIxQ K) (tVar 5) (tC (V.int 2))) tNil)) (tCons (tCB (fun xs H Q => ∃ p ys, xs = [V.ref p] ∧ (SqL K H p ys ∨ SqT K H p ys) ∧ Q (V.int ys.length) H) (tCons (tOp (rIxQ K) (tVar 5) (tC (V.int 1))) tNil)) (tCons (tOp (rIxQ K) (tVar 7) (tC (V.int 1))) tNil))))) tNil))))) { nx := fun _ H' => Q .non H', rt := Q } [some (V.ref wa), some (.ref pa), some (.ref m), some (.ref pa'), some wv, some (.ref m'), z, some tv] H5 := by
        intro H5 tv e5 M5 hat
        have hp5 := e5.sqT hp1
        cases eo : innN ws ps f0 wi R2 with
        | raised k d =>
          rw [eo] at hat ed
          obtain ⟨t, u, rfl, ht, hu⟩ := at_raised hat
          refine ⟨_, rfl, t, _, 0, _, rfl, rfl, .inr ht, rfl, rfl, _, rfl, _, rfl, q _ _ e5 ?_⟩
          rw [ed]
          exact hat
        | told d =>
          rw [eo] at hat ed
          obtain ⟨t, u, rfl, ht, hu⟩ := at_told hat
          refine ⟨_, rfl, t, _, 0, _, rfl, rfl, .inr ht, rfl, rfl, _, rfl, ?_⟩
          refine ⟨_, rfl, pa', _, 3, _, rfl, rfl, .inr hp5, rfl, _, _, rfl, rfl, _, rfl, ifD (fun hc3 => ?_) fun hc3 => ?_⟩
          · have hp : pl.part.natAbs.log2 < 1920 := by
              have h1 := hvpl.2.2.2.2.2
              have h2 : pl.part.natAbs < 2 ^ 20 := by omega
              by_cases h0 : pl.part.natAbs = 0
              · rw [h0]
                decide
              · exact Nat.lt_trans ((Nat.log2_lt h0).mpr h2) (by decide)
            refine ⟨_, rfl, pa', _, 3, _, rfl, rfl, .inr hp5, rfl, _, rfl, pa', _, 3, _, rfl, rfl, .inr hp5, rfl, _, rfl, pa', _, 4, _, rfl, rfl, .inr hp5, rfl, pl.ending, pl.part, rfl, by omega, hp, fun v H6 e6 hv => ⟨(by show 3 ≤ sizeLine; decide), fun t6 h6 => q _ _ ((e5.trans e6).trans (Ext.new h6)) ?_⟩⟩
            have ee : endN f0 R2 pl (.told d) = .raised pl.ending (fldD pl.ending pl.part) := if_pos (by omega)
            rw [ed, ee]
            exact raised_at (tupOf upd_same) (hv.ext (Ext.new h6))
          · obtain ⟨xs5, fa, a1, alast, hfa⟩ := M5.last
            obtain ⟨ys5, c1, c2⟩ := M5.h1
            have hy5 : ys5.length = R2.length := by rw [c2.len, List.length_map]
            refine ⟨_, rfl, m', _, 0, _, rfl, rfl, .inl (lstOf M5.hm), rfl, _, rfl, k0, xs5, _, _, rfl, rfl, .inl (lstOf a1), alast, _, rfl, m', _, 2, _, rfl, rfl, .inl (lstOf M5.hm), rfl, k2, _, rfl, lstOf M5.h2, _, rfl, m', _, 1, _, rfl, rfl, .inl (lstOf M5.hm), rfl, k1, ys5, rfl, .inl (lstOf c1), _, rfl, t, _, 1, _, rfl, rfl, .inr ht, rfl, (by show 4 ≤ sizeLine; decide), fun t6 h6 => ⟨(by show 2 ≤ sizeLine; decide), fun t7 h7 => q _ _ ((e5.trans (Ext.new h6)).trans (Ext.new h7)) ?_⟩⟩
            have ee : endN f0 R2 pl (.told d) = .told (endD f0 R2 d) := if_neg (by omega)
            rw [ed, ee]
            refine told_at (tupOf upd_same) ⟨t6, _, rfl, (Ext.new h7).sqT (tupOf upd_same), _, _, rfl, ints_at (((Ext.new h6).trans (Ext.new h7)).sqT hfa), _, _, rfl, rfl, _, _, rfl, ?_, _, _, rfl, hu.ext ((Ext.new h6).trans (Ext.new h7)), rfl⟩
            show V.int _ = V.int _
            rw [hy5]
      refine ⟨_, rfl, _, rfl, pa', _, 2, _, rfl, rfl, .inr hp2, rfl, m', k0, k1, k2, f0, _, pl.back, rfl, hc2, by have := hvpl.2.2.2.1; omega, M2, fun H3 k3 t3 M3 => ?_⟩
      rw [eR] at M3
      have e3 : Ext H H3 := e.under k3 fun s hs => by
        simp only [List.mem_cons, List.not_mem_nil, or_false] at hs
        rcases hs with rfl | rfl | rfl
        · exact n0
        · exact n1
        · exact n2
      refine ⟨(by show 2 ≤ sizeLine; decide), fun t4 h4 => ?_⟩
      have e4 := e3.trans (Ext.new (o := .tup [.str "told", .non]) h4)
      have M4 := M3.e (Ext.new (o := .tup [.str "told", .non]) h4)
      cases wi with
      | none =>
        have hwi : wv = .non := hwi
        subst hwi
        refine ⟨_, rfl, rfl, _, rfl, fin _ _ e4 M4 (told_at (d := .non) (tupOf upd_same) rfl)⟩
      | some pl2 =>
        obtain ⟨⟨lo2, hpl2⟩, hv2⟩ := hwi
        have es := hsp pl2 rfl
        subst es
        obtain ⟨pa2, xs2, rfl, hrest⟩ := hpl2
        refine ⟨_, rfl, rfl, _, rfl, ?_⟩
        refine ⟨_, rfl, _, rfl, _, rfl, _, rfl, wa, pa, m', k0, k1, k2, lo2, _, _, ws, f0, ps, R2, pl2, rfl, e4.sqT hw, hvw, hps.ext e4, hvp, M4, (PlanAt.e ⟨pa2, xs2, rfl, hrest⟩ e4), hv2, rfl, hf0, hF2, Nat.lt_of_lt_of_le hR2 (by show 500 + 10 ≤ 600; decide), fun v H5 e5 hv => ?_⟩
        exact fin H5 v (e4.trans e5) (M4.e e5) hv
theorem pdue_len {wi : Option Plan} {vs : List V} {H : Hp} {Q : VK} {E : XK} (h : sp_pdue K wi vs H Q E) : vs.length = 5 := by
  obtain ⟨u, v, a, b, c, d, e, x1, x2, x3, x4, x5, x6, x7, z, _⟩ := h
  rw [z] <;> rfl
theorem due_step (T : Txt K mg) {k j : Nat} {sp : Sp} (hk : 6 ≤ k) (hk2 : j ≤ k) (wi : Option Plan) (ih : C8.Cal P w K mg base j "_law_plan_due" sp []) (hsp : ∀ pl, wi = some pl → sp = sp_pdue K none) : C8.Cal P w K mg base (k + 1) "_law_plan_due" (sp_pdue K wi) [] :=
  calD T.d__law_plan_due sc__law_plan_due (fun vs H Q E h => pdue_len h) fun f cdv A outer s H vs Q E hr h => due_body T hk hk2 wi ih hsp f cdv A outer s H vs Q E hr h
/-- what is due, whatever stands within -/
def sp_dueA (K : PySem.W.Frag) : Sp := fun vs H Q E => ∃ wi, sp_pdue K wi vs H Q E
theorem c_due (T : Txt K mg) : C8.Cal P w K mg base 8 "_law_plan_due" (sp_dueA K) [] := by
  refine calD T.d__law_plan_due sc__law_plan_due (fun vs H Q E ⟨wi, h⟩ => pdue_len h) fun f cdv A outer s H vs Q E hr ⟨wi, h⟩ => ?_
  cases wi with
  | none => exact due_body T (k := 7) (by decide) (j := 1) (by decide) none (c_due_no T) (fun _ z => by cases z) f cdv A outer s H vs Q E hr h
  | some pl => exact due_body T (k := 7) (by decide) (j := 7) (by decide) (some pl) (due_step T (k := 6) (by decide) (j := 1) (by decide) none (c_due_no T) (fun _ z => by cases z)) (fun _ _ => rfl) f cdv A outer s H vs Q E hr h
end
end K14
end
section
/-! A function that a def made and gave back: its cells are told of in the heap. -/
namespace K14
open PySem PySem.Spec PyProof.Rows L2 RZ K14H NdefX LamX
/-- the cell at c holds v -/
def CellO (c : Addr) (v : V) : HO := .ext fun h => ∃ u, L2.RelV v u ∧ h.IsCell c (some u)
/-- the cells cl (by name) are told of in H; those of fr hold ws -/
structure Cl (H : Hp) (cl : List (Str × Addr)) (fr : List Str) (ws : List V) : Prop where
  len : ws.length = fr.length
  inj : ∀ x y c, cl.lookup x = some c → cl.lookup y = some c → x = y
  mem : ∀ y c, cl.lookup y = some c → ∃ v, H c = some (CellO c v)
  has : ∀ (i : Nat) (y : Str) (v : V), fr[i]? = some y → ws[i]? = some v → ∃ c, cl.lookup y = some c ∧ H c = some (CellO c v)
def IsC (cl : List (Str × Addr)) (b : Addr) : Prop := ∃ y, cl.lookup y = some b
open Classical in
/-- without the cells -/
noncomputable def cutC (cl : List (Str × Addr)) (H : Hp) : Hp := fun b => if IsC cl b then none else H b
open Classical in
/-- H' with the cells as they are in H -/
noncomputable def putC (cl : List (Str × Addr)) (H H' : Hp) : Hp := fun b => if IsC cl b then H b else H' b
section
variable {cl : List (Str × Addr)} {H H' : Hp} {b : Addr} {o : HO}
theorem cut_in (h : IsC cl b) : cutC cl H b = none := if_pos h
theorem cut_out (h : ¬ IsC cl b) : cutC cl H b = H b := if_neg h
theorem put_in (h : IsC cl b) : putC cl H H' b = H b := if_pos h
theorem put_out (h : ¬ IsC cl b) : putC cl H H' b = H' b := if_neg h
theorem cut_none (h : H b = none) : cutC cl H b = none := by
  by_cases c : IsC cl b
  · exact cut_in c
  · rw [cut_out c, h]
theorem cut_some (h : cutC cl H b = some o) : H b = some o ∧ ¬ IsC cl b := by
  by_cases c : IsC cl b
  · rw [cut_in c] at h
    cases h
  · rw [cut_out c] at h
    exact ⟨h, c⟩
end
section
variable {P : Program} {w : World} {cl : List (Str × Addr)} {fr : List Str} {ws : List V} {H H' : Hp} {h h' B : Heap} {fs : List Addr}
theorem Cl.no (C : Cl H cl fr ws) {b : Addr} {o : HO} (e : H b = some o) (hn : ∀ φ, o ≠ .ext φ) : ¬ IsC cl b := fun ⟨y, hy⟩ => by
  obtain ⟨v, hv⟩ := C.mem y b hy
  rw [e] at hv
  exact hn _ (Option.some.inj hv)
theorem hok_cell (ok : HOk P w H h) {c : Addr} {v : V} (e : H c = some (CellO c v)) : ∃ u, L2.RelV v u ∧ h.IsCell c (some u) := (ok c _ e).1
theorem hok_cut (ok : HOk P w H h) (C : Cl H cl fr ws) : HOk P w (cutC cl H) h := fun a o e => by
  obtain ⟨e1, n⟩ := cut_some e
  refine (ok a o e1).stay (fun _ _ _ z => z) (fun b z => ?_) fun b xs z => ?_
  · rw [cut_out (C.no z (by intro φ y; cases y)), z]
  · rw [cut_out (C.no z (by intro φ y; cases y)), z]
theorem hok_put (ok : HOk P w H h) (C : Cl H cl fr ws) (ok' : HOk P w H' h') (hk : ∀ c o, IsC cl c → h.get? c = some o → h'.get? c = some o) (hn : ∀ c, IsC cl c → H' c = none) : HOk P w (putC cl H H') h' := fun a o e => by
  by_cases c : IsC cl a
  · rw [put_in c] at e
    obtain ⟨y, hy⟩ := c
    obtain ⟨v, hv⟩ := C.mem y a hy
    rw [hv] at e
    cases e
    obtain ⟨⟨u, r, ob, ho, hd⟩, _, st⟩ := ok a _ hv
    exact ⟨⟨u, r, ob, hk a ob ⟨y, hy⟩ ho, hd⟩, ⟨ob, hk a ob ⟨y, hy⟩ ho⟩, st⟩
  · rw [put_out c] at e
    have keep : ∀ b u, H' b = some u → putC cl H H' b = some u := fun b u z => by
      rw [put_out (fun q => by rw [hn b q] at z; cases z), z]
    exact (ok' a o e).stay (fun _ _ _ z => z) (fun b z => keep _ _ z) fun b xs z => keep _ _ z
theorem Cl.plain (C : Cl H cl fr ws) {b : Addr} {o : HO} (e : H b = some o) (hn : ∀ φ, o ≠ .ext φ) (q : cutC cl H b = some o → H' b = some o) : putC cl H H' b = some o := by
  have n := C.no e hn
  rw [put_out n]
  exact q (by rw [cut_out n, e])
theorem un_put (C : Cl H cl fr ws) (u : Un fs [] (cutC cl H) H' h h') : Un fs [] H (putC cl H H') h h' where
  keep := fun b o e n => u.keep b o e (cut_none n)
  slot := fun b o e n => u.slot b o e (cut_none n)
  free := fun b o e n x => by
    by_cases c : IsC cl b
    · rw [put_in c, n]
    · rw [put_out c]
      exact u.free b o e (cut_none n) x
  there := u.there
  tups := fun b xs e => C.plain e (by intro φ y; cases y) (u.tups b xs)
  frzs := fun b o v e => C.plain e (by intro φ y; cases y) (u.frzs b o v)
  tbls := fun b ps e => by
    have n := C.no e (by intro φ y; cases y)
    obtain ⟨more, q⟩ := u.tbls b ps (by rw [cut_out n, e])
    exact ⟨more, by rw [put_out n, q]⟩
theorem ub_put (C : Cl H cl fr ws) (u : UB fs (cutC cl H) H' h B h') : UB fs H (putC cl H H') h B h' where
  keep := fun b o e n => u.keep b o e (cut_none n)
  slot := u.slot
  free := fun b o e n => by
    by_cases c : IsC cl b
    · rw [put_in c, n]
    · rw [put_out c]
      exact u.free b o e (cut_none n)
  there := u.there
  tups := fun b xs e => C.plain e (by intro φ y; cases y) (u.tups b xs)
  frzs := fun b o v e => C.plain e (by intro φ y; cases y) (u.frzs b o v)
  tbls := fun b ps e => by
    have n := C.no e (by intro φ y; cases y)
    obtain ⟨more, q⟩ := u.tbls b ps (by rw [cut_out n, e])
    exact ⟨more, by rw [put_out n, q]⟩
theorem cellsAt_of (ok : HOk P w H h) (C : Cl H cl fr ws) : CellsAt cl fr (ws.map some) h (cutC cl H) := by
  refine ⟨by rw [List.length_map]; exact C.len, fun y c e => ⟨cut_in ⟨y, e⟩, ?_⟩, C.inj, fun i y e => ?_⟩
  · obtain ⟨v, hv⟩ := C.mem y c e
    obtain ⟨u, _, hu⟩ := hok_cell ok hv
    exact ⟨_, hu⟩
  · have hi : i < ws.length := by
      rw [C.len]
      exact (List.getElem?_eq_some_iff.mp e).1
    obtain ⟨c, hc, hv⟩ := C.has i y ws[i] e (List.getElem?_eq_getElem hi)
    refine ⟨c, hc, fun v ev => ?_⟩
    rw [List.getElem?_map, List.getElem?_eq_getElem hi] at ev
    have ev : ws[i] = v := Option.some.inj (Option.some.inj ev)
    rw [← ev]
    exact hok_cell ok hv
end
section
variable {P : Program} {w : World} {K : PySem.W.Frag} {mg : Str → Option Value} {base : Heap}
/-- the heap is one that some heap holds -/
def SomeOk (P : Program) (w : World) (H : Hp) : Prop := ∃ h, HOk P w H h
/-- the call of a function whose cells are told of -/
theorem runs_of_nok {k : Nat} {f : Addr} {F : NF} {ps fr : List Str} {sp : List (Option V) → Sp} (Fn : NOk P w K mg base (L2.CX P w) k f F ps fr sp) {H : Hp} {ws vs : List V} {Q : VK} {E : XK} (hf : H f = some (FnO f F)) (hc : H F.c = some (CodeO F.c F.qual)) (C : Cl H F.cl fr ws)
    (hsp : ¬ IsC F.cl f → ¬ IsC F.cl F.c → SomeOk P w H → sp (ws.map some) vs (cutC F.cl H) (fun v H' => (∀ c, IsC F.cl c → H' c = none) → Q v (putC F.cl H H')) fun cls d H' => (∀ c, IsC F.cl c → H' c = none) → E cls d (putC F.cl H H')) : Runs P w K mg base k f vs H Q E := by
  intro A outer s us hr e0 r
  have n1 : ¬ IsC F.cl f := fun ⟨y, hy⟩ => by
    obtain ⟨v, hv⟩ := C.mem y f hy
    obtain ⟨u, _, ob, ho, hd⟩ := hok_cell e0.hok hv
    obtain ⟨od, sl, doc, pm, ctv, hz⟩ := fnO_at e0.hok hf
    rw [ho] at hz
    cases hz
    cases hd
  have n2 : ¬ IsC F.cl F.c := fun ⟨y, hy⟩ => by
    obtain ⟨v, hv⟩ := C.mem y F.c hy
    obtain ⟨u, _, ob, ho, hd⟩ := hok_cell e0.hok hv
    obtain ⟨⟨oc, zs, t, h1, h2, h3⟩, _, _⟩ := e0.hok F.c _ hc
    rw [ho] at h1
    cases h1
    rw [hd] at h2
    cases h2
  have notfr : ∀ c, IsC F.cl c → c ∉ frs outer := fun c ⟨y, hy⟩ z => by
    obtain ⟨v, hv⟩ := C.mem y c hy
    rw [e0.frf c z] at hv
    cases hv
  have there : ∀ c, IsC F.cl c → ∃ o, s.heap.get? c = some o := fun c ⟨y, hy⟩ => by
    obtain ⟨v, hv⟩ := C.mem y c hy
    obtain ⟨u, _, ob, ho, _⟩ := hok_cell e0.hok hv
    exact ⟨ob, ho⟩
  have e1 : Env0 P w K mg base A outer s (cutC F.cl H) := ⟨e0.frames, e0.mod, fun b o q => ⟨(e0.bs b o q).1, cut_none (e0.bs b o q).2⟩, e0.bsz, e0.funs, fun b q => cut_none (e0.frf b q), hok_cut e0.hok C, e0.bare⟩
  refine codeAny_mono (Fn.run A outer s (cutC F.cl H) us vs (ws.map some) _ _ hr e1 (by rw [cut_out n1, hf]) (by rw [cut_out n2, hc]) (cellsAt_of e0.hok C) r (hsp n1 n2 ⟨_, e0.hok⟩)) fun r s' z => ?_
  cases r with
  | error e =>
    obtain ⟨a, B, H', cls, d, h1, h2, h3, h4, h5, h6, h7, h8⟩ := z
    have hcB : ∀ c o, IsC F.cl c → s.heap.get? c = some o → B.get? c = some o := fun c o q g => h4.keep c o g (cut_in q) (notfr c q)
    have hz : ∀ c, IsC F.cl c → H' c = none := fun c q => by
      obtain ⟨o, ho⟩ := there c q
      exact h4.free c o ho (cut_in q)
    refine ⟨a, B, putC F.cl H H', cls, d, h1, h2, hok_put e0.hok C h3 hcB hz, ub_put C h4, ?_, h6, h7, h8 hz⟩
    rw [put_out fun q => ?_, h5]
    · obtain ⟨o, ho⟩ := there a q
      have z1 := hcB a o q ho
      rw [h2.2.1] at z1
      cases z1
  | ok fl =>
    cases fl with
    | ret u =>
      obtain ⟨v, H', h1, h2, h3, h4, h5, h6⟩ := z
      have hz : ∀ c, IsC F.cl c → H' c = none := fun c q => by
        obtain ⟨o, ho⟩ := there c q
        exact h3.free c o ho (cut_in q) (by simp)
      exact ⟨v, putC F.cl H H', h1, h2, un_put C h3, hok_put e0.hok C h4 (fun c o q g => h3.keep c o g (cut_in q) (notfr c q) (by simp)) hz, h5, h6 hz⟩
    | next => exact False.elim z
    | brk => exact False.elim z
    | cont => exact False.elim z
end
end K14
end
section
/-! _law_action: the function that it makes and gives back. -/
namespace K14
open PySem PySem.Spec PyProof.Rows L2 RZ K14H NdefX LamX
abbrev s__law_action : Stmt := top 93
abbrev N__law_action : List Str := ["_law_outer", "_law_plan_here", "_law_inner", "_law_calls", "_law_act"]
theorem sc__law_action : FnScope N__law_action ["_law_outer", "_law_plan_here", "_law_inner", "_law_calls"] (C8.fnScope s__law_action) := C8.fnScope_by (by decide +kernel)
def s_act : Stmt := (C8.fnBody s__law_action).getD 0 (.Pass ⟨0, 0, 0, 0⟩)
def posF : Stmt → Pos
  | .FunctionDef (pos := p) .. => p
  | _ => ⟨0, 0, 0, 0⟩
def q_act : Str := "_law_action.<locals>._law_act"
abbrev frA : List Str := ["_law_outer", "_law_plan_here", "_law_inner", "_law_calls"]
abbrev N_act : List Str := ["_law_play", "_law_outer", "_law_plan_here", "_law_inner", "_law_calls", "_law_used", "_law_opening_here", "_law_told"]
theorem sc_act : NScope N_act ["_law_play"] frA (C8.fnScope s_act) := nscope_by (by decide +kernel)
/-- the function at f, its cells told of -/
structure ActAt (H : Hp) (f : Addr) (F : NF) (ws : List V) : Prop where
  fn : H f = some (FnO f F)
  co : H F.c = some (CodeO F.c F.qual)
  st : F = NF.of s_act "_law_act" q_act F.cl F.c
  cl : Cl H F.cl frA ws
/-- a def, its code object told of -/
def DefC (K : PySem.W.Frag) (mg : Str → Option Value) (x : Str) (st : Stmt) (ps : List Str) (c : Addr) : Prop := ∃ (f : Addr) (fd : FuncData), C8.Def K mg x st f fd ∧ L2.Binds K fd ps [] ∧ fd.code = .ref c
def nmA : Nat → Nat → Str := fun _ _ => q_act
section
variable {P : Program} {w : World} {K : PySem.W.Frag} {mg : Str → Option Value} {base : Heap}
theorem act_st : s_act = .FunctionDef "_law_act" (C8.fnArgs s_act) (C8.fnBody s_act) [] none [] (C8.fnScope s_act) none "_law_act" (posF s_act) := by rfl
def DrT (H H' : Hp) : Prop := ExtN H H'
theorem hok_new {w : World} {P : Program} {H : Hp} {h : Heap} {c : Addr} {v : V} {u : Value} (ok : HOk P w H h) (n : H c = none) (r : L2.RelV v u) (z : h.IsCell c (some u)) : HOk P w (upd H c (CellO c v)) h := fun a o e => by
  by_cases q : a = c
  · subst q
    rw [upd_same] at e
    cases e
    obtain ⟨ob, ho, hd⟩ := z
    exact ⟨⟨u, r, ob, ho, hd⟩, ⟨ob, ho⟩, fun h1 h2 ⟨u, r, ob, ho, hd⟩ st => ⟨u, r, ob, st _ ho, hd⟩⟩
  · rw [upd_ne q] at e
    have e1 := Ext.new (o := CellO c v) n
    exact (ok a o e).stay (fun _ _ _ z => z) (fun b z => e1 _ _ z) fun b xs z => e1 _ _ z
theorem un_new {fs : List Addr} {H H1 : Hp} {h h' : Heap} {c : Addr} {o : HO} (u : Un fs [] H H1 h h') (n : H1 c = none) (hc : h.get? c = none) : Un fs [] H (upd H1 c o) h h' where
  keep := u.keep
  slot := u.slot
  free := fun b ob e q x => by
    rw [upd_ne fun z => by rw [z, hc] at e; cases e]
    exact u.free b ob e q x
  there := u.there
  tups := fun b xs e => Ext.new n _ _ (u.tups b xs e)
  frzs := fun b ob v e => Ext.new n _ _ (u.frzs b ob v e)
  tbls := fun b ps e => by
    obtain ⟨more, q⟩ := u.tbls b ps e
    exact ⟨more, Ext.new n _ _ q⟩
/-- what is told of the making -/
def sp_mkact (Tb : List NTab) : Sp := fun vs H Q _ => ∃ v0 v1 v2 v3, vs = [v0, v1, v2, v3] ∧ TabsN Tb H ∧ ∀ f F H', ExtN H H' → TabsN Tb H' → H f = none → (∀ c, IsC F.cl c → H c = none) → ActAt H' f F [v0, v1, v2, v3] → Q (.ref f) H'
theorem start_act {v0 v1 v2 v3 : V} : L2.start N__law_action [v0, v1, v2, v3] = [some v0, some v1, some v2, some v3, none] := rfl
theorem c__law_action {c Pt : Addr} {Tb : List NTab} (D : DefC K mg "_law_action" s__law_action frA c) (TB : TabB base mg c Pt) (hm : (Pt, nmA) ∈ Tb) (hu : ∀ p ∈ Tb, p.1 = Pt → p.2 = nmA) (k : Nat) : C8.Cal P w K mg base (k + 1) "_law_action" (sp_mkact Tb) [] := by
  obtain ⟨f, fd, d, b, hcd⟩ := D
  refine ⟨f, fd, _, [], ?_, d.mgf, d.kp, b, .nil⟩
  obtain ⟨oc, od, dV, kV, doc, pm, an, cdv, ct, osl, rfl, lk, hci⟩ := d.fn.ex
  have hcd : cdv = .ref c := hcd
  subst hcd
  refine ⟨fun vs H Q E ⟨v0, v1, v2, v3, e, _⟩ => by rw [e]; rfl, fun A outer s H args us vs Q E hr e0 hb r hsp => ?_⟩
  obtain ⟨v0, v1, v2, v3, rfl, hT, q⟩ := hsp
  have S := sc__law_action
  have KX : K.In s.heap := e0.mod.kin.keeps fun b o e => (e0.bs b o e).1
  have lim : s.heap.NoLimit := e0.mod.nolimit.keeps fun b o e => (e0.bs b o e).1
  have hkind : ∀ y ∈ frA.zip us, (C8.fnScope s__law_action).names.lookup y.1 = some .local ∨ ((C8.fnScope s__law_action).names.lookup y.1 = some .cell ∧ ((cellsFrom (s.heap.objs.size + 1) (C8.fnScope s__law_action).names []).lookup y.1).isSome = true) := fun ⟨n, v⟩ hy => by
    rcases S.par n (List.of_mem_zip hy).1 with q | q
    · exact .inl q
    · exact .inr ⟨q, PySem.W.cellsFrom_some _ _ _ (.inl q)⟩
  refine codeAny_call_function hr.depth (KX _ _ lk) rfl S.co S.gen rfl (PySem.W.codeRec_of KX hci) (hb _ _ _ _ ?_)
  refine wpAny_newFunctionEnv_cells S.kind hkind fun env he s1 x => ?_
  subst he
  refine ⟨lim.keeps x.toInCall.keep, codeAny_func ?_⟩
  have I : Inv (cxOf C8.CX0 P w K mg base N__law_action "_law_action" (C8.fnScope s__law_action) f (.ref c) A outer s H E) [] (L2.start N__law_action [v0, v1, v2, v3]) H s1 := inv_start S hr.hd e0 rfl r x
  have nf := ndef_free (sc := C8.fnScope s__law_action) (nsc := C8.fnScope s_act) (fr := frA) (by decide +kernel)
  have hfr := ndef_fr (sc := C8.fnScope s__law_action) (nsc := C8.fnScope s_act) (fr := frA) (by decide +kernel)
  refine wpAny_execs_cons (thn ((ps_ndefMS (X := cxOf C8.CX0 P w K mg base N__law_action "_law_action" (C8.fnScope s__law_action) f (.ref c) A outer s H E) (i := 4) act_st TB rfl hm rfl hu nf rfl rfl rfl S.nd rfl (Or.inl (by rfl)) (.inl rfl)).run [] s1 _ H
    { nx := fun σ1 H1 => ∃ fa c', σ1 = [some v0, some v1, some v2, some v3, some (.ref fa)] ∧ ExtN H H1 ∧ TabsN Tb H1 ∧ H fa = none ∧ H1 fa = some (FnO fa (NF.of s_act "_law_act" q_act (cloFrom (envOfC "_law_action" (C8.fnScope s__law_action) s.heap.objs.size f (.ref c)).cells (C8.fnScope s_act).names []) c')) ∧ H1 c' = some (CodeO c' q_act), rt := fun _ _ => False } I ⟨hT, fun fa c' H1 g1 g2 g3 g4 g5 g6 => ⟨fa, c', rfl, g1, g3, g4, g5, g6⟩⟩) fun fl s2 z => ?_)
  cases fl with
  | next =>
    obtain ⟨σ1, H1, J, fa, c', es, g1, g3, g4, g5, g6⟩ := z
    subst es
    refine wpAny_execs_cons (wpAny_Return_some (thn ((pv (X := cxOf C8.CX0 P w K mg base N__law_action "_law_action" (C8.fnScope s__law_action) f (.ref c) A outer s H E) (x := "_law_act") 4).run [] s2 _ H1 (fun v H2 => v = .ref fa ∧ H2 = H1) J ⟨.ref fa, rfl, rfl, rfl⟩) fun u s3 z => ?_))
    obtain ⟨v, H2, J3, rv, ev, eH⟩ := z
    subst ev eH
    have C : CellsAt (cloFrom (envOfC "_law_action" (C8.fnScope s__law_action) s.heap.objs.size f (.ref c)).cells (C8.fnScope s_act).names []) frA [some v0, some v1, some v2, some v3] s3.heap H2 := cells_of J3 (Caps.made (js := [0, 1, 2, 3]) J3.ok nf hfr rfl)
    generalize eK : cloFrom (envOfC "_law_action" (C8.fnScope s__law_action) s.heap.objs.size f (.ref c)).cells (C8.fnScope s_act).names [] = cl at C
    obtain ⟨c0, hc0, w0⟩ := C.has 0 "_law_outer" rfl
    obtain ⟨c1, hc1, w1⟩ := C.has 1 "_law_plan_here" rfl
    obtain ⟨c2, hc2, w2⟩ := C.has 2 "_law_inner" rfl
    obtain ⟨c3, hc3, w3⟩ := C.has 3 "_law_calls" rfl
    obtain ⟨u0, r0, i0⟩ := w0 v0 rfl
    obtain ⟨u1, r1, i1⟩ := w1 v1 rfl
    obtain ⟨u2, r2, i2⟩ := w2 v2 rfl
    obtain ⟨u3, r3, i3⟩ := w3 v3 rfl
    have apart : ∀ {x y : Str} {a b : Addr}, cl.lookup x = some a → cl.lookup y = some b → x ≠ y → b ≠ a := fun {x y a b} h1 h2 n z => n (C.inj x y a h1 (by rw [← z]; exact h2))
    have n10 := apart hc0 hc1 (by decide)
    have n20 := apart hc0 hc2 (by decide)
    have n30 := apart hc0 hc3 (by decide)
    have n21 := apart hc1 hc2 (by decide)
    have n31 := apart hc1 hc3 (by decide)
    have n32 := apart hc2 hc3 (by decide)
    have fr4 : ∀ y a, cl.lookup y = some a → y ∈ frA := fun y a h => by
      rw [← eK] at h
      rcases cloFrom_mem (PySem.mem_of_lookup h) with hm | ⟨h1, _⟩
      · cases hm
      · exact sc_act.free _ h1 rfl
    have new : ∀ y a, cl.lookup y = some a → s.heap.objs.size ≤ a := fun y a h => by
      rw [← eK] at h
      exact J3.ok.cab y a rfl ((Caps.made (js := [0, 1, 2, 3]) J3.ok nf hfr rfl : Caps _ _ frA _).sub y a h)
    have m0 := (C.all _ _ hc0).1
    have m1 := (C.all _ _ hc1).1
    have m2 := (C.all _ _ hc2).1
    have m3 := (C.all _ _ hc3).1
    have old : ∀ {a : Addr}, s.heap.objs.size ≤ a → s.heap.get? a = none := fun {a} h => by
      cases e : s.heap.get? a with
      | none => rfl
      | some o => exact absurd (Heap.lt_size e) (Nat.not_lt.mpr h)
    have k1 : upd H2 c0 (CellO c0 v0) c1 = none := (upd_ne n10).trans m1
    have k2 : upd (upd H2 c0 (CellO c0 v0)) c1 (CellO c1 v1) c2 = none := (upd_ne n21).trans ((upd_ne n20).trans m2)
    have k3 : upd (upd (upd H2 c0 (CellO c0 v0)) c1 (CellO c1 v1)) c2 (CellO c2 v2) c3 = none := (upd_ne n32).trans ((upd_ne n31).trans ((upd_ne n30).trans m3))
    have eA : Ext H2 (upd (upd (upd (upd H2 c0 (CellO c0 v0)) c1 (CellO c1 v1)) c2 (CellO c2 v2)) c3 (CellO c3 v3)) := (((Ext.new m0).trans (Ext.new k1)).trans (Ext.new k2)).trans (Ext.new k3)
    have a3 : upd (upd (upd (upd H2 c0 (CellO c0 v0)) c1 (CellO c1 v1)) c2 (CellO c2 v2)) c3 (CellO c3 v3) c3 = some (CellO c3 v3) := upd_same
    have a2 : upd (upd (upd (upd H2 c0 (CellO c0 v0)) c1 (CellO c1 v1)) c2 (CellO c2 v2)) c3 (CellO c3 v3) c2 = some (CellO c2 v2) := (Ext.new k3) _ _ upd_same
    have a1 : upd (upd (upd (upd H2 c0 (CellO c0 v0)) c1 (CellO c1 v1)) c2 (CellO c2 v2)) c3 (CellO c3 v3) c1 = some (CellO c1 v1) := ((Ext.new k2).trans (Ext.new k3)) _ _ upd_same
    have a0 : upd (upd (upd (upd H2 c0 (CellO c0 v0)) c1 (CellO c1 v1)) c2 (CellO c2 v2)) c3 (CellO c3 v3) c0 = some (CellO c0 v0) := (((Ext.new k1).trans (Ext.new k2)).trans (Ext.new k3)) _ _ upd_same
    refine ⟨.ref fa, _, J3.os, J3.bare, un_new (un_new (un_new (un_new J3.base m0 (old (new _ _ hc0))) k1 (old (new _ _ hc1))) k2 (old (new _ _ hc2))) k3 (old (new _ _ hc3)), hok_new (hok_new (hok_new (hok_new J3.hok m0 r0 i0) k1 r1 i1) k2 r2 i2) k3 r3 i3, rv, ?_⟩
    refine q fa (NF.of s_act "_law_act" q_act cl c') _ (fun b o e nt => eA _ _ (g1 b o e nt)) (g3.ext eA) g4 (fun a ⟨y, hy⟩ => ?_) ⟨?_, eA _ _ g6, rfl, rfl, C.inj, fun y a hy => ?_, fun i y v e1 e2 => ?_⟩
    · exact e0.hok.fresh (new y a hy)
    · rw [← eK]
      exact eA _ _ g5
    · have hy : cl.lookup y = some a := hy
      have := fr4 y a hy
      simp only [frA, List.mem_cons, List.not_mem_nil, or_false] at this
      rcases this with rfl | rfl | rfl | rfl
      · rw [hc0] at hy
        cases hy
        exact ⟨_, a0⟩
      · rw [hc1] at hy
        cases hy
        exact ⟨_, a1⟩
      · rw [hc2] at hy
        cases hy
        exact ⟨_, a2⟩
      · rw [hc3] at hy
        cases hy
        exact ⟨_, a3⟩
    · match i, e1, e2 with
      | 0, e1, e2 =>
        cases e1
        cases e2
        exact ⟨c0, hc0, a0⟩
      | 1, e1, e2 =>
        cases e1
        cases e2
        exact ⟨c1, hc1, a1⟩
      | 2, e1, e2 =>
        cases e1
        cases e2
        exact ⟨c2, hc2, a2⟩
      | 3, e1, e2 =>
        cases e1
        cases e2
        exact ⟨c3, hc3, a3⟩
      | n + 4, e1, e2 => cases e1
  | ret u =>
    obtain ⟨_, _, _, _, _, z⟩ := z
    exact False.elim z
  | brk =>
    obtain ⟨_, _, _, z⟩ := z
    exact False.elim z
  | cont =>
    obtain ⟨_, _, _, z⟩ := z
    exact False.elim z
end
end K14
end
section
/-! _law_act: what its call does. -/
namespace K14
open PySem PySem.Spec PyProof.Rows L2 RZ K14H NdefX LamX
def exN (k : Nat) : Str := if k = 11 then "NoNumber" else exName k
/-- the error is the one of the kind k, its fields tell d -/
def ExOf (K : PySem.W.Frag) (H : Hp) (k : Nat) (d : D) (cls : Value) (dd : Option Addr) : Prop :=
  cls = .ref (He.ga K (exN k)) ∧ k ≤ 11 ∧ (k < 9 → ∃ x a fs, d = fldD k x ∧ dd = some a ∧ H a = some (.xd fs) ∧ FldOk K H k x fs) ∧ (9 ≤ k → d = .int 0)
structure Aft (K : PySem.W.Frag) (B : Hp) (S : List Addr) (p l wb : Addr) (wds : List Int) (ps : List Pipe) (f0 : List Int) (H H' : Hp) : Prop where
  kp : Kp (p :: l :: S) H H'
  tk : Tk H H'
  play : ∃ l' R', PlayAt K B H' p l' wb wds ps f0 R'
/-- a call's ends -/
def Ends2 (K : PySem.W.Frag) (A : Hp → Prop) (o : Out) (Q : VK) (E : XK) : Prop :=
  (∀ d v H', o = .told d → A H' → At K H' d v → Q v H') ∧ ∀ k d cls dd H', o = .raised k d → A H' → ExOf K H' k d cls dd → E cls dd H'
section
variable (P : Program) (w : World) (K : PySem.W.Frag) (mg : Str → Option Value) (base : Heap)
/-- what the inner action is -/
def InnOk (B : Hp) (j : Nat) (H : Hp) (iv : V) (p l lc wb : Addr) (wds : List Int) (ps : List Pipe) (f0 : List Int) (SI : List Addr) (inn : List En → Out) (n : Nat) : Prop :=
  (iv = .non ∧ inn = fun _ => .told .non) ∨ ∃ fi Fi, iv = .ref fi ∧ H fi = some (FnO fi Fi) ∧
    ∀ H2 l2 R2 Q E, Kp [p, l, lc] H H2 → Tk H H2 → PlayAt K B H2 p l2 wb wds ps f0 R2 → (l2 = l ∨ H l2 = none) → (∀ e ∈ R2, Fine wds ps e) → R2.length ≤ n + 3 →
      Ends2 K (Aft K B SI p l2 wb wds ps f0 H2) (inn R2) Q E → Runs P w K mg base j fi [.ref p] H2 Q E
def sp_act (j : Nat) (ws : List (Option V)) : Sp := fun vs H Q E => ∃ (B : Hp) (p l wb lc lo : Addr) (pv iv : V) (wds f0 : List Int) (ps : List Pipe) (R : List En) (pl : Plan) (xs : List V) (SI : List Addr) (inn : List En → Out),
  ws = [some (.ref p), some pv, some iv, some (.ref lc)] ∧ vs = [.ref p] ∧ PlayAt K B H p l wb wds ps f0 R ∧ PlanAt K H pv lo pl ∧ VPlan ps.length pl ∧ (∀ e ∈ R, Fine wds ps e) ∧ R.length < 900 ∧
  H lc = some (.lst xs) ∧ xs.length < 900 ∧ B lc = none ∧ lc ≠ l ∧ lo ≠ l ∧ lo ≠ lc ∧ (∀ s ∈ SI, B s = none ∧ s ≠ lc ∧ s ≠ lo ∧ s ≠ p ∧ s ≠ l ∧ H s ≠ none) ∧
  InnOk P w K mg base B j H iv p l lc wb wds ps f0 SI inn R.length ∧
  Ends2 K (fun H' => Aft K B (lc :: SI) p l wb wds ps f0 H H' ∧ H' lc = some (.lst (xs ++ [.int xs.length]))) (due0 wds ps f0 R pl inn) Q E
end
section
variable {K : PySem.W.Frag} {H H' : Hp}
mutual
theorem At.sq (eT : ∀ a xs, SqT K H a xs → SqT K H' a xs) (eL : ∀ a xs, SqL K H a xs → SqL K H' a xs) : ∀ {d : D} {v : V}, At K H d v → At K H' d v
  | .non, _, h => h
  | .int _, _, h => h
  | .str _, _, h => h
  | .tup l, v, h => by
    obtain ⟨a, xs, h1, h2, h3⟩ := h
    exact ⟨a, xs, h1, eT _ _ h2, Ats.sq eT eL h3⟩
  | .lst l, v, h => by
    obtain ⟨a, xs, h1, h2, h3⟩ := h
    exact ⟨a, xs, h1, eL _ _ h2, Ats.sq eT eL h3⟩
theorem Ats.sq (eT : ∀ a xs, SqT K H a xs → SqT K H' a xs) (eL : ∀ a xs, SqL K H a xs → SqL K H' a xs) : ∀ {l : List D} {xs : List V}, Ats K H l xs → Ats K H' l xs
  | [], _, h => h
  | d :: l, xs, h => by
    obtain ⟨v, r, h1, h2, h3⟩ := h
    exact ⟨v, r, h1, At.sq eT eL h2, Ats.sq eT eL h3⟩
end
theorem sqT_ins {p C dx : Addr} {fs : List (Str × V)} {o : HO} (h : H p = some (.ins C dx fs)) (a : Addr) (xs : List V) (q : SqT K H a xs) : SqT K (L2.upd H p o) a xs := by
  have ne : ∀ {u : HO}, H a = some u → (∀ C dx fs, u ≠ .ins C dx fs) → L2.upd H p o a = some u := fun {u} e n => by
    rw [upd_ne fun z => by rw [z, h] at e; exact n _ _ _ (Option.some.inj e).symm]
    exact e
  rcases q with (q | ⟨ob, q⟩) | q
  · exact .inl (.inl (ne q (by intros; simp)))
  · exact .inl (.inr ⟨ob, ne q (by intros; simp)⟩)
  · exact .inr q
theorem sqL_ins {p C dx : Addr} {fs : List (Str × V)} {o : HO} (h : H p = some (.ins C dx fs)) (a : Addr) (xs : List V) (q : SqL K H a xs) : SqL K (L2.upd H p o) a xs := by
  have ne : ∀ {u : HO}, H a = some u → (∀ C dx fs, u ≠ .ins C dx fs) → L2.upd H p o a = some u := fun {u} e n => by
    rw [upd_ne fun z => by rw [z, h] at e; exact n _ _ _ (Option.some.inj e).symm]
    exact e
  rcases q with (q | ⟨ob, q⟩) | q
  · exact .inl (.inl (ne q (by intros; simp)))
  · exact .inl (.inr ⟨ob, ne q (by intros; simp)⟩)
  · exact .inr q
theorem At.ins {p C dx : Addr} {fs : List (Str × V)} {o : HO} {d : D} {v : V} (h : H p = some (.ins C dx fs)) (q : At K H d v) : At K (L2.upd H p o) d v := q.sq (sqT_ins h) (sqL_ins h)
theorem ExOf.ins {p C dx : Addr} {fs : List (Str × V)} {o : HO} {k : Nat} {d : D} {cls : Value} {dd : Option Addr} (h : H p = some (.ins C dx fs)) (q : ExOf K H k d cls dd) : ExOf K (L2.upd H p o) k d cls dd := by
  obtain ⟨q1, q2, q3, q4⟩ := q
  refine ⟨q1, q2, fun z => ?_, q4⟩
  obtain ⟨x, a, gs, u1, u2, u3, u4⟩ := q3 z
  refine ⟨x, a, gs, u1, u2, ?_, ?_⟩
  · rw [upd_ne fun z => by rw [z, h] at u3; cases u3]
    exact u3
  · unfold FldOk at u4 ⊢
    split at u4
    · rename_i hk
      rw [if_pos hk]
      obtain ⟨w1, v, w2, w3⟩ := u4
      exact ⟨w1, v, w2, w3.ins h⟩
    · rename_i hk
      rw [if_neg hk]
      obtain ⟨v, w2, w3⟩ := u4
      exact ⟨v, w2, w3.ins h⟩
end
theorem ifSame {c : Bool} {A B : Prop} (z : B) (a : B → A) : if c = true then A else B := by
  cases c
  · exact z
  · exact a z
theorem ifTail {c : Bool} {A : Prop} {C : Hp → Prop} {H : Hp} (G : Hp → Prop) (tail : ∀ H', G H' → C H') (hA : c = true → (∀ H', G H' → C H') → A) (hB : c = false → G H) : if c = true then A else C H := by
  cases c
  · exact tail _ (hB rfl)
  · exact hA rfl tail
section
variable {P : Program} {w : World} {K : PySem.W.Frag} {mg : Str → Option Value} {base : Heap}
theorem nok_act (U : TxtE P K mg) {j k : Nat} (hk : 6 ≤ k) (hj : j + 1 ≤ k) (f c : Addr) (cl : List (Str × Addr)) : NOk P w K mg base (L2.CX P w) (k + 1) f (NF.of s_act "_law_act" q_act cl c) ["_law_play"] frA (sp_act P w K mg base j) := by
  have T := U.t
  refine nok_of (N := N_act) sc_act (fun doc pm ctv us hl => match us, hl with | [_], _ => rfl) (fun ws vs H Q E ⟨B, p, l, wb, lc, lo, pv, iv, wds, f0, ps, R, pl, xs, SI, inn, _, e, _⟩ => by rw [e]; rfl) fun A outer s H vs ws Q E hr hf hc hwl h => ⟨_, (pss_cons (ps_expr (pe_bm PySem.F.plainAttrs_list PySem.F.slot_list_append PySem.F.type_list_append mt_append (pv 4) (pa_cons (pe_callB call_len_seq (by rfl) T.z_len (by decide +kernel) (pa_cons (pv 4) pa_nil)) pa_nil)))
    (pss_cons (ps_set (i := 5) sc_act.nd rfl (Or.inl rfl) (pv 0))
    (pss_cons (ps_if (pt_cmpR op_eq (pe_ix (ix_k (K := K) rfl) (pv 2) pe_int (fun _ _ => rfl)) pe_int (nomark _)) (pss_one (ps_set (i := 5) sc_act.nd rfl (Or.inl rfl) (pv 1))) pss_nil)
    (pss_cons (ps_for (passes_of rfl) rfl (pi_list (pe_ix (ix_k (K := K) rfl) (pv 2) pe_int (fun _ _ => rfl))) (pg_name (i := 6) sc_act.nd rfl (Or.inl rfl))
      (pss_one (ps_expr (C8.pe_mt (m_tick T) hr (by omega) (pv 5) (pa_cons (pv 6) pa_nil)))))
    (pss_cons (ps_if (pt_cmpR op_gt (pe_ix (ix_k (K := K) rfl) (pv 2) pe_int (fun _ _ => rfl)) pe_int (nomark _)) (pss_one (ps_expr (pe_mX (m_back U) hr (by omega) (takes_of rfl rfl rfl rfl) (pv 5) (pa_cons (pe_ix (ix_k (K := K) rfl) (pv 2) pe_int (fun _ _ => rfl)) pa_nil)))) pss_nil)
    (pss_cons (ps_set (i := 7) sc_act.nd rfl (Or.inl rfl) pe_non)
    (pss_cons (ps_if (pt_cmpR op_notN (pv 3) pe_non (nomark _)) (pss_one (ps_set (i := 7) sc_act.nd rfl (Or.inl rfl) (pe_mX (m_trying T j) hr hj (takes_of rfl rfl rfl rfl) (pv 5) (pa_cons (pv 3) pa_nil)))) pss_nil)
    (pss_cons (ps_if (pt_cmpR op_lt (pe_ix (ix_k (K := K) rfl) (pv 2) pe_int (fun _ _ => rfl)) pe_int (nomark _)) (pss_one (ps_expr (pe_cX (c_raised U) hr (by omega) (takes_of rfl rfl rfl rfl) (by rfl) (pa_cons (pe_ix (ix_k (K := K) rfl) (pv 2) pe_int (fun _ _ => rfl)) (pa_cons (pe_ix (ix_k (K := K) rfl) (pv 2) pe_int (fun _ _ => rfl)) pa_nil))))) pss_nil)
    (pss_one (ps_ret (pe_tup (pa_cons (C8.pe_mt0 (m_now T) hr (by omega) (pv 5)) (pa_cons (C8.pe_mt0 (m_ran T) hr (by omega) (pv 5)) (pa_cons (pe_callB call_len_seq (by rfl) T.z_len (by decide +kernel) (pa_cons (C8.pe_mt0 (m_log T) hr (by omega) (pv 0)) pa_nil)) (pa_cons (pv 7) pa_nil))))))))))))))), ?_⟩
  obtain ⟨B, p, l, wb, lc, lo, pv, iv, wds, f0, ps, R, pl, xs, SI, inn, rfl, rfl, hP, hpl, hvpl, hF, hR, hlc, hxl, hBlc, nlc, nlo, nll, hSI, hI, hE⟩ := h
  obtain ⟨pa, ys, rfl, hp1, hlo, hops⟩ := hpl
  have hyl : ys.length = pl.ops.length := by rw [hops.len, List.length_map]
  have hpi : ∃ dx b, H p = some (.ins (CP K) dx (plF wb b l)) := by
    obtain ⟨dx, b, _, h1, _⟩ := hP.ex
    exact ⟨dx, b, h1⟩
  obtain ⟨dxp, bp, hpins⟩ := hpi
  have hll : ∃ zs, H l = some (.lst zs) := by
    obtain ⟨dx, b, zs, _, _, h3, _⟩ := hP.ex
    exact ⟨zs, h3⟩
  obtain ⟨zs0, hll⟩ := hll
  have npl : p ≠ l := fun z => by rw [z, hll] at hpins; cases hpins
  have npc : p ≠ lc := fun z => by rw [z, hlc] at hpins; cases hpins
  have npo : p ≠ lo := fun z => by rw [z, hlo] at hpins; cases hpins
  refine ⟨_, rfl, .inl ⟨rfl, xs, lstOf hlc⟩, _, rfl, lc, xs, rfl, .inl (lstOf hlc), lc, xs, _, rfl, rfl, hlc, small_line (by omega), ?_⟩
  generalize hH1 : upd H lc (.lst (xs ++ [.int (xs.length : Int)])) = H1
  have k1 : Kp [p, l, lc] H H1 := by rw [← hH1]; exact Kp.upd (by simp)
  have t1 : Tk H H1 := by rw [← hH1]; exact Tk.upd hlc trivial
  have c1 : H1 lc = some (.lst (xs ++ [.int (xs.length : Int)])) := by rw [← hH1]; exact upd_same
  have P1 : PlayAt K B H1 p l wb wds ps f0 R := by
    rw [← hH1]
    exact hP.kp (S := [lc]) (Kp.upd (by simp)) (fun s hs => by rw [List.mem_singleton.mp hs]; exact hBlc) (by simpa using npc) (by simpa using nlc.symm) (Tk.upd hlc trivial)
  have n1 : ∀ b, H b = none → H1 b = none := fun b hb => by
    rw [← hH1, upd_ne (ne_of_none hlc hb).symm]
    exact hb
  -- the openings stay
  have lo1 : ∀ {H' : Hp}, Kp [p, l, lc] H H' → H' lo = some (.lst ys) := fun kk => kk _ _ hlo (by simp [npo.symm, nlo, nll])
  refine ⟨_, rfl, _, rfl, pa, _, 0, _, rfl, rfl, .inr (t1.sqT hp1), rfl, rfl, _, rfl, ifSame ?_ fun z => ⟨_, rfl, z⟩⟩
  refine ⟨_, rfl, pa, _, 1, _, rfl, rfl, .inr (t1.sqT hp1), rfl, lo, rfl, ⟨ys, lstOf (lo1 k1)⟩, ?_⟩
  refine for_it (walk_list (xs := ys)) (fun i σ H' => ∃ (z : Option V), i ≤ pl.ops.length ∧ Kp [p, l, lc] H H' ∧ Tk H H' ∧ PlayAt K B H' p l wb wds ps f0 (tksN wds ps f0 R (pl.ops.take i)) ∧ H' lc = some (.lst (xs ++ [.int (xs.length : Int)])) ∧ σ = [some (.ref p), some (.ref p), some (.ref pa), some iv, some (.ref lc), some (.ref p), z, none])
    ⟨none, Nat.zero_le _, k1, t1, P1, c1, rfl⟩ (fun i σ H' _ ⟨z, _, kk, _⟩ => lstOf (lo1 kk)) (fun i x σ H2 H3 hi ⟨z, hin, kk, tt, P2, c2, es⟩ hy => ?_) fun σ H2 ⟨z, hin, kk, tt, P2, c2, es⟩ => ?_
  · obtain ⟨rfl, hy⟩ := hy
    subst es
    have hi' : i < pl.ops.length := by omega
    obtain ⟨d, hd, hat⟩ := hops.get hy
    obtain ⟨op, hop⟩ : ∃ op, pl.ops[i]? = some op := ⟨_, List.getElem?_eq_getElem hi'⟩
    rw [List.getElem?_map, hop] at hd
    obtain rfl : dOp op = d := Option.some.inj hd
    obtain ⟨dx2, b2, zs2, q1, _, q3, _⟩ := P2.ex
    have ol := hvpl.2.1
    refine ⟨_, rfl, p, dx2, _, rfl, q1, rfl, _, rfl, B, p, l, wb, x, wds, ps, f0, _, op, rfl, P2, hat.tk tt (pure_op op), hvpl.2.2.1 op (List.mem_of_getElem? hop), ?_, fun a H4 k4 t4 P4 _ => ?_⟩
    · rw [tks_len, List.length_take]
      omega
    · refine ⟨_, hi', kk.trans (k4.mono (by simp)), tt.trans t4, ?_, k4 _ _ c2 (by simpa using nlc), rfl⟩
      rw [List.take_add_one, hop]
      show PlayAt K B H4 p l wb wds ps f0 (tksN wds ps f0 R (pl.ops.take i ++ [op]))
      rw [tks_snoc]
      exact P4
  · subst es
    rw [hyl, List.take_length] at P2
    have hF1 := tks_fine (f0 := f0) (ops := pl.ops) hF hvpl.2.2.1
    have hl1 := tks_len wds ps f0 pl.ops R
    have ol := hvpl.2.1
    have edA : (tksN wds ps f0 R pl.ops).length < pl.back → due0 wds ps f0 R pl inn = .raised 11 (.int 0) := fun h => if_pos h
    have edB : pl.back ≤ (tksN wds ps f0 R pl.ops).length → due0 wds ps f0 R pl inn = endN f0 ((tksN wds ps f0 R pl.ops).take ((tksN wds ps f0 R pl.ops).length - pl.back)) pl (inn ((tksN wds ps f0 R pl.ops).take ((tksN wds ps f0 R pl.ops).length - pl.back))) := fun h => if_neg (by omega)
    generalize tksN wds ps f0 R pl.ops = R1 at P2 hF1 hl1 edA edB
    refine ⟨_, rfl, pa, _, 2, _, rfl, rfl, .inr (tt.sqT hp1), rfl, _, _, rfl, rfl, _, rfl, ?_⟩
    refine ifTail (H := H2) (fun H' => ∃ l2, Kp [p, l, lc] H H' ∧ Tk H H' ∧ (l2 = l ∨ H l2 = none) ∧ H' lc = some (.lst (xs ++ [.int (xs.length : Int)])) ∧ pl.back ≤ R1.length ∧ PlayAt K B H' p l2 wb wds ps f0 (R1.take (R1.length - pl.back))) (fun H' ⟨l2, k3, t3, hl2, c3, hbk, P3⟩ => ?_) (fun hc tail => ?_) fun hc => ?_
    · have edC := edB hbk
      have hF2 : ∀ e ∈ R1.take (R1.length - pl.back), Fine wds ps e := fun e he => hF1 e (List.mem_of_mem_take he)
      have hR2 : (R1.take (R1.length - pl.back)).length ≤ R.length + 3 := by
        rw [List.length_take]
        omega
      generalize R1.take (R1.length - pl.back) = R2 at P3 edC hF2 hR2
      have fin : ∀ (H5 : Hp) (l5 : Addr) (d : D) (tv : V), inn R2 = .told d → Kp (p :: l :: lc :: SI) H H5 → Tk H H5 → PlayAt K B H5 p l5 wb wds ps f0 R2 → H5 lc = some (.lst (xs ++ [.int (xs.length : Int)])) → At K H5 d tv →
          tSeq (tIfS (tTest (tOp (rI0 fun i j => V.bl (decide (i < j))) (tOp (rIxQ K) (tVar 2) (tC (.int 3))) (tC (.int 11)))) (tDrop (tCallS (sp_raised K) (WE fun cls d x H => E cls d H) (tCons (tOp (rIxQ K) (tVar 2) (tC (.int 3))) (tCons (tOp (rIxQ K) (tVar 2) (tC (.int 4))) tNil)))) tNext)
            (tRet (tTup (tCons (tMeth (CP K) "now" (sp_now K) [] C8.E0 (tVar 5) tNil) (tCons (tMeth (CP K) "ran" (sp_ran K) [] C8.E0 (tVar 5) tNil) (tCons (tCB (fun xs H Q => ∃ p ys, xs = [V.ref p] ∧ (SqL K H p ys ∨ SqT K H p ys) ∧ Q (V.int ys.length) H) (tCons (tMeth (CP K) "log" (sp_log K) [] C8.E0 (tVar 0) tNil) tNil)) (tCons (tVar 7) tNil))))))
            { nx := fun _ H' => Q .non H', rt := Q } [some (V.ref p), some (.ref p), some (.ref pa), some iv, some (.ref lc), some (.ref p), z, some tv] H5 := by
        intro H5 l5 d tv ei k5 t5 P5 c5 hat
        rw [ei] at edC
        have hp5 := t5.sqT hp1
        obtain ⟨dx5, b5, zs5, q1, _, q3, _⟩ := P5.ex
        refine ⟨_, rfl, pa, _, 3, _, rfl, rfl, .inr hp5, rfl, _, _, rfl, rfl, _, rfl, ifD (fun hc3 => ?_) fun hc3 => ?_⟩
        · have hp : pl.part.natAbs.log2 < 1920 := by
            have h1 := hvpl.2.2.2.2.2
            have h2 : pl.part.natAbs < 2 ^ 20 := by omega
            by_cases h0 : pl.part.natAbs = 0
            · rw [h0]
              decide
            · exact Nat.lt_trans ((Nat.log2_lt h0).mpr h2) (by decide)
          refine ⟨_, rfl, pa, _, 3, _, rfl, rfl, .inr hp5, rfl, _, rfl, pa, _, 4, _, rfl, rfl, .inr hp5, rfl, pl.ending, pl.part, rfl, by omega, hp, fun cls dd H6 ⟨e6, h6, g6⟩ => ?_⟩
          have ee : endN f0 R2 pl (.told d) = .raised pl.ending (fldD pl.ending pl.part) := if_pos (by omega)
          rw [ee] at edC
          refine hE.2 _ _ cls dd H6 edC ⟨⟨k5.trans e6.kp, t5.trans e6.tk, l5, R2, P5.e e6⟩, e6 _ _ c5⟩ ⟨?_, by omega, fun hk9 => ?_, fun hk9 => ?_⟩
          · rw [h6]
            unfold exN
            rw [if_neg (by omega)]
          · obtain ⟨a, fs, u1, u2, u3⟩ := g6 hk9
            exact ⟨pl.part, a, fs, rfl, u1, u2, u3⟩
          · have : pl.ending = 9 ∨ pl.ending = 10 := by omega
            rcases this with z | z <;> rw [z] <;> rfl
        · have ee : endN f0 R2 pl (.told d) = .told (endD f0 R2 d) := if_neg (by omega)
          rw [ee] at edC
          refine ⟨_, rfl, p, dx5, _, rfl, q1, rfl, B, p, l5, wb, wds, ps, f0, R2, rfl, P5, fun a ha => ?_⟩
          refine ⟨_, rfl, p, dx5, _, rfl, q1, rfl, B, p, l5, wb, wds, ps, f0, R2, rfl, P5, by omega, fun e he => ?_, fun H6 e6 => ?_⟩
          · have := (hF2 e he).2.2
            have := hP.vp.1
            omega
          refine ⟨_, rfl, p, dx5, _, rfl, e6 _ _ q1, rfl, B, p, l5, wb, wds, ps, f0, R2, rfl, P5.e e6, by omega, fun a2 xs2 H7 e7 hx2 hat2 => ?_⟩
          have hl2 : xs2.length = R2.length := by rw [hat2.len, List.length_map]
          refine ⟨a2, xs2, rfl, .inl (lstOf hx2), _, rfl, (by show 4 ≤ sizeLine; decide), fun t8 h8 => ?_⟩
          have ex := (e6.trans e7).trans (Ext.new (o := .tup [.ref a, .int (ranN R2), .int (xs2.length : Int), tv]) h8)
          refine hE.1 _ _ _ edC ⟨⟨k5.trans ex.kp, t5.trans ex.tk, l5, R2, P5.e ex⟩, ex _ _ c5⟩ ⟨t8, _, rfl, tupOf upd_same, _, _, rfl, ints_at (ex.sqT ha), _, _, rfl, rfl, _, _, rfl, ?_, _, _, rfl, hat.ext ex, rfl⟩
          show V.int _ = V.int _
          rw [hl2]
      obtain ⟨dx3, b3, zs3, q1, q2, q3, q4⟩ := P3.ex
      rcases hI with ⟨rfl, hinn⟩ | ⟨fi, Fi, rfl, hfi, hrun⟩
      · exact ⟨_, rfl, rfl, _, rfl, fin H' l2 .non .non (by rw [hinn]) (k3.mono (by simp +contextual)) t3 P3 c3 rfl⟩
      · have nfi : ∀ b o, H b = some o → (∀ φ, o ≠ .ext φ) → fi ≠ b := fun b o e n z => by
          rw [← z, hfi] at e
          exact n _ (Option.some.inj e).symm
        have hfi' : H' fi = some (FnO fi Fi) := k3 _ _ hfi (by
          simp only [List.mem_cons, List.not_mem_nil, or_false, not_or]
          exact ⟨nfi _ _ hpins (by intro φ; simp), nfi _ _ hll (by intro φ; simp), nfi _ _ hlc (by intro φ; simp)⟩)
        refine ⟨_, rfl, rfl, _, rfl, ?_⟩
        refine ⟨_, rfl, p, dx3, _, rfl, q1, rfl, _, rfl, p, l2, wb, b3, dx3, fi, Fi, zs3, rfl, q1, q3, hfi', fun k' hk' => ?_⟩
        have ek : Ext H' (upd H' k' (.lst zs3)) := Ext.new hk'
        have hap : ∀ H3, Aft K B SI p l2 wb wds ps f0 (upd H' k' (.lst zs3)) H3 → ∃ dx4 b4 l4, H3 p = some (.ins (CP K) dx4 (plF wb b4 l4)) ∧ Kp (p :: l :: lc :: SI) H (upd H3 p (.ins (CP K) dx4 (plF wb b4 k'))) ∧ Tk H (upd H3 p (.ins (CP K) dx4 (plF wb b4 k'))) ∧
            PlayAt K B (upd H3 p (.ins (CP K) dx4 (plF wb b4 k'))) p k' wb wds ps f0 R2 ∧ (upd H3 p (.ins (CP K) dx4 (plF wb b4 k'))) lc = some (.lst (xs ++ [.int (xs.length : Int)])) := by
          intro H3 ⟨kp, tk, l4, R4, P4⟩
          obtain ⟨dx4, b4, zs4, g1, g2, g3, g4⟩ := P4.ex
          have nk : ∀ b o, H' b = some o → k' ≠ b := fun b o e z => by
            rw [← z, hk'] at e
            cases e
          have hSI' : ∀ s ∈ SI, ∃ o, H' s = some o := fun s hs => by
            obtain ⟨_, n1, _, n2, n3, n4⟩ := hSI s hs
            cases e : H s with
            | none => exact absurd e n4
            | some o => exact ⟨o, k3 _ _ e (by simp [n1, n2, n3])⟩
          have nkS : k' ∉ p :: l2 :: SI := by
            simp only [List.mem_cons, not_or]
            refine ⟨nk _ _ q1, nk _ _ q3, fun z => ?_⟩
            obtain ⟨o, ho⟩ := hSI' _ z
            exact nk _ _ ho rfl
          have nl2 : lc ≠ l2 := by
            rcases hl2 with z | z
            · rw [z]
              exact nlc
            · exact fun y => by rw [← y, hlc] at z; cases z
          have ncS : lc ∉ p :: l2 :: SI := by
            simp only [List.mem_cons, not_or]
            exact ⟨npc.symm, nl2, fun z => (hSI _ z).2.1 rfl⟩
          have hk3 : H3 k' = some (.lst zs3) := kp _ _ upd_same nkS
          have tt2 : Tk H3 (upd H3 p (.ins (CP K) dx4 (plF wb b4 k'))) := Tk.upd g1 trivial
          have kE : Kp (p :: l :: lc :: SI) H H3 := fun b o e nb => by
            simp only [List.mem_cons, not_or] at nb
            obtain ⟨m1, m2, m3, m4⟩ := nb
            refine kp _ _ (ek _ _ (k3 _ _ e (by simp [m1, m2, m3]))) ?_
            simp only [List.mem_cons, not_or]
            refine ⟨m1, fun z => ?_, m4⟩
            rcases hl2 with y | y
            · exact m2 (z.trans y)
            · rw [← z, e] at y
              cases y
          refine ⟨dx4, b4, l4, g1, kE.trans (Kp.upd (by simp)), (t3.trans (ek.tk.trans tk)).trans tt2, ⟨⟨dx4, b4, zs3, upd_same, tt2.sqT g2, ?_, ?_⟩, ?_, P4.web, P4.bp, P3.ext.out hk', P4.vw, P4.vp, P4.vf, P3.good⟩, ?_⟩
          · rw [upd_ne (nk _ _ q1)]
            exact hk3
          · exact q4.tk ((ek.tk.trans tk).trans tt2) (pures_of pure_en _)
          · exact P4.ext.under (S := [p]) (Kp.upd (by simp)) fun s hs => by rw [List.mem_singleton.mp hs]; exact P4.bp
          · rw [upd_ne npc.symm]
            exact kp _ _ (ek _ _ c3) ncS
        refine hrun _ l2 R2 _ _ (k3.trans ek.kp) (t3.trans ek.tk) (P3.e ek) hl2 hF2 hR2 ⟨fun d v H3 ei hA hat => ?_, fun kd d cls dd H3 ei hA hx => ?_⟩
        · obtain ⟨dx4, b4, l4, g1, g2, g3, g4, g5⟩ := hap H3 hA
          exact ⟨dx4, wb, b4, l4, g1, fin _ k' d v ei g2 g3 g4 g5 (hat.ins g1)⟩
        · obtain ⟨dx4, b4, l4, g1, g2, g3, g4, g5⟩ := hap H3 hA
          rw [ei] at edC
          exact ⟨dx4, wb, b4, l4, g1, hE.2 kd d cls dd _ edC ⟨⟨g2, g3, k', R2, g4⟩, g5⟩ (hx.ins g1)⟩
    · have hb0 : (0 : Int) < (pl.back : Int) := of_decide_eq_true hc
      obtain ⟨dx2, b2, zs2, q1, _, q3, _⟩ := P2.ex
      refine ⟨_, rfl, p, dx2, _, rfl, q1, rfl, _, rfl, pa, _, 2, _, rfl, rfl, .inr (tt.sqT hp1), rfl, B, p, l, wb, pl.back, wds, ps, f0, R1, rfl, P2, by omega, fun hm l' H3 k3 t3 nl' P3 => ?_, fun hm => ?_⟩
      · refine tail H3 ⟨l', kk.trans (k3.mono (by simp)), tt.trans t3, .inr ?_, k3 _ _ c2 (by simpa using npc.symm), hm, P3⟩
        cases z : H l' with
        | none => rfl
        | some o =>
          by_cases hz : l' ∈ [p, l, lc]
          · simp only [List.mem_cons, List.not_mem_nil, or_false] at hz
            rcases hz with rfl | rfl | rfl
            · rw [q1] at nl'
              cases nl'
            · rw [q3] at nl'
              cases nl'
            · rw [c2] at nl'
              cases nl'
          · rw [kk _ _ z hz] at nl'
            cases nl'
      · refine hE.2 11 (.int 0) _ _ _ (edA hm) ⟨⟨kk.mono (by simp +contextual), tt, l, R1, P2⟩, c2⟩ ⟨rfl, by decide, fun z => absurd z (by decide), fun _ => rfl⟩
    · have hb0 : ¬ (0 : Int) < (pl.back : Int) := of_decide_eq_false hc
      have hb1 : pl.back = 0 := by omega
      refine ⟨l, kk, tt, .inl rfl, c2, by omega, ?_⟩
      rw [hb1, Nat.sub_zero, List.take_length]
      exact P2
end
end K14
end
section
/-! Actions: their calls, one within the other. -/
namespace K14
open PySem PySem.Spec PyProof.Rows L2 RZ K14H NdefX LamX
section
variable {K : PySem.W.Frag} {H H' : Hp} {f : Addr} {F : NF} {ws : List V} {cl : List (Str × Addr)}
theorem ActAt.kp {S : List Addr} (A : ActAt H f F ws) (k : Kp S H H') (hs : ∀ s ∈ S, ∀ φ, H s ≠ some (.ext φ)) : ActAt H' f F ws := by
  have ke : ∀ b φ, H b = some (.ext φ) → H' b = some (.ext φ) := fun b φ e => k _ _ e fun z => hs b z φ e
  refine ⟨ke _ _ A.fn, ke _ _ A.co, A.st, A.cl.len, A.cl.inj, fun y c h => ?_, fun i y v h1 h2 => ?_⟩
  · obtain ⟨v, hv⟩ := A.cl.mem y c h
    exact ⟨v, ke _ _ hv⟩
  · obtain ⟨c, hc, hv⟩ := A.cl.has i y v h1 h2
    exact ⟨c, hc, ke _ _ hv⟩
theorem ActAt.cut (A : ActAt H f F ws) (h1 : ¬ IsC cl f) (h2 : ¬ IsC cl F.c) (h3 : ∀ c, IsC F.cl c → ¬ IsC cl c) : ActAt (cutC cl H) f F ws := by
  refine ⟨by rw [cut_out h1]; exact A.fn, by rw [cut_out h2]; exact A.co, A.st, A.cl.len, A.cl.inj, fun y c h => ?_, fun i y v h4 h5 => ?_⟩
  · rw [cut_out (h3 c ⟨y, h⟩)]
    exact A.cl.mem y c h
  · obtain ⟨c, hc, hv⟩ := A.cl.has i y v h4 h5
    exact ⟨c, hc, by rw [cut_out (h3 c ⟨y, hc⟩)]; exact hv⟩
theorem sqT_cut {fr : List Str} (C : Cl H cl fr ws) (a : Addr) (xs : List V) (q : SqT K H a xs) : SqT K (cutC cl H) a xs := by
  rcases q with (q | ⟨ob, q⟩) | q
  · exact .inl (.inl (by rw [cut_out (C.no q (by intro φ y; cases y)), q]))
  · exact .inl (.inr ⟨ob, by rw [cut_out (C.no q (by intro φ y; cases y)), q]⟩)
  · exact .inr q
theorem sqL_cut {fr : List Str} (C : Cl H cl fr ws) (a : Addr) (xs : List V) (q : SqL K H a xs) : SqL K (cutC cl H) a xs := by
  rcases q with (q | ⟨ob, q⟩) | q
  · exact .inl (.inl (by rw [cut_out (C.no q (by intro φ y; cases y)), q]))
  · exact .inl (.inr ⟨ob, by rw [cut_out (C.no q (by intro φ y; cases y)), q]⟩)
  · exact .inr q
theorem Ats.cut {fr : List Str} (C : Cl H cl fr ws) {l : List D} {xs : List V} (q : Ats K H l xs) : Ats K (cutC cl H) l xs := q.sq (sqT_cut C) (sqL_cut C)
theorem Cl.at (C : Cl H cl frA ws) {b : Addr} {o : HO} (e : H b = some o) (n : ∀ φ, o ≠ .ext φ) : cutC cl H b = some o := by rw [cut_out (C.no e n), e]
theorem Cl.lst {fr : List Str} (C : Cl H cl fr ws) {b : Addr} {xs : List V} (e : H b = some (.lst xs)) : cutC cl H b = some (.lst xs) := by rw [cut_out (C.no e (by intro φ y; cases y)), e]
theorem PlanAt.cut {fr : List Str} (C : Cl H cl fr ws) {v : V} {lo : Addr} {pl : Plan} (h : PlanAt K H v lo pl) : PlanAt K (cutC cl H) v lo pl := by
  obtain ⟨a, xs, h1, h2, h3, h4⟩ := h
  exact ⟨a, xs, h1, sqT_cut C _ _ h2, C.lst h3, h4.cut C⟩
theorem PlayAt.cut {fr : List Str} (C : Cl H cl fr ws) {B : Hp} (hB : ∀ c, IsC cl c → B c = none) {p l wb : Addr} {wds : List Int} {ps : List Pipe} {f0 : List Int} {R : List En} (P : PlayAt K B H p l wb wds ps f0 R) : PlayAt K B (cutC cl H) p l wb wds ps f0 R := by
  obtain ⟨dx, b, xs, h1, h2, h3, h4⟩ := P.ex
  refine ⟨⟨dx, b, xs, by rw [cut_out (C.no h1 (by intro φ y; cases y)), h1], sqT_cut C _ _ h2, C.lst h3, h4.cut C⟩, fun b o e => ?_, P.web, P.bp, P.bl, P.vw, P.vp, P.vf, P.good⟩
  rw [cut_out fun z => by rw [hB b z] at e; cases e]
  exact P.ext b o e
end
section
variable {P : Program} {w : World} {K : PySem.W.Frag} {mg : Str → Option Value} {base : Heap}
theorem act_runs (U : TxtE P K mg) {j k : Nat} (hk : 6 ≤ k) (hj : j + 1 ≤ k) {B H : Hp} {f : Addr} {F : NF} {p l wb lc lo : Addr} {pv iv : V} {wds f0 : List Int} {ps : List Pipe} {R : List En} {pl : Plan} {xs : List V} {SI : List Addr} {inn : List En → Out} {Q : VK} {E : XK}
    (hA : ActAt H f F [.ref p, pv, iv, .ref lc]) (hBc : ∀ c, IsC F.cl c → B c = none) (hP : PlayAt K B H p l wb wds ps f0 R) (hpl : PlanAt K H pv lo pl) (hvpl : VPlan ps.length pl) (hF : ∀ e ∈ R, Fine wds ps e) (hR : R.length < 900)
    (hlc : H lc = some (.lst xs)) (hxl : xs.length < 900) (hBlc : B lc = none) (nlc : lc ≠ l) (nlo : lo ≠ l) (nll : lo ≠ lc) (hSI : ∀ s ∈ SI, B s = none ∧ s ≠ lc ∧ s ≠ lo ∧ s ≠ p ∧ s ≠ l ∧ ∃ zs, H s = some (.lst zs))
    (hI : SomeOk P w H → InnOk P w K mg base B j (cutC F.cl H) iv p l lc wb wds ps f0 SI inn R.length)
    (hE : Ends2 K (fun H' => Aft K B (lc :: SI) p l wb wds ps f0 H H' ∧ H' lc = some (.lst (xs ++ [.int xs.length]))) (due0 wds ps f0 R pl inn) Q E) : Runs P w K mg base (k + 1) f [.ref p] H Q E := by
  obtain ⟨cl, c, rfl⟩ : ∃ cl c, F = NF.of s_act "_law_act" q_act cl c := ⟨_, _, hA.st⟩
  have C : Cl H cl frA [.ref p, pv, iv, .ref lc] := hA.cl
  refine runs_of_nok (nok_act U hk hj f c cl) hA.fn hA.co C fun n1 n2 sok => ?_
  have ext : ∀ {H' : Hp}, (∀ c, IsC cl c → H' c = none) → Ext H' (putC cl H H') := fun {H'} hz b o e => by
    rw [put_out fun z => by rw [hz b z] at e; cases e]
    exact e
  have aft : ∀ {H' : Hp}, (∀ c, IsC cl c → H' c = none) → (Aft K B (lc :: SI) p l wb wds ps f0 (cutC cl H) H' ∧ H' lc = some (.lst (xs ++ [.int xs.length]))) → Aft K B (lc :: SI) p l wb wds ps f0 H (putC cl H H') ∧ putC cl H H' lc = some (.lst (xs ++ [.int xs.length])) := fun {H'} hz ⟨⟨kp, tk, l4, R4, P4⟩, hc⟩ => by
    refine ⟨⟨fun b o e nb => ?_, ⟨fun b xs e => ?_, fun b o u e => ?_⟩, l4, R4, P4.e (ext hz)⟩, ext hz _ _ hc⟩
    · by_cases hb : IsC cl b
      · rw [put_in hb, e]
      · exact ext hz _ _ (kp b o (by rw [cut_out hb, e]) nb)
    · exact ext hz _ _ (tk.1 b xs (by rw [cut_out (C.no e (by intro φ y; cases y)), e]))
    · exact ext hz _ _ (tk.2 b o u (by rw [cut_out (C.no e (by intro φ y; cases y)), e]))
  refine ⟨B, p, l, wb, lc, lo, pv, iv, wds, f0, ps, R, pl, xs, SI, inn, rfl, rfl, hP.cut C hBc, hpl.cut C, hvpl, hF, hR, C.lst hlc, hxl, hBlc, nlc, nlo, nll, fun s hs => ?_, hI sok, fun d v H' e1 h1 h2 hz => ?_, fun k d cls dd H' e1 h1 h2 hz => ?_⟩
  · obtain ⟨m1, m2, m3, m4, m5, zs, hz⟩ := hSI s hs
    exact ⟨m1, m2, m3, m4, m5, fun z => by have z : cutC cl H s = none := z; rw [C.lst hz] at z; cases z⟩
  · exact hE.1 d v _ e1 (aft hz h1) (h2.ext (ext hz))
  · refine hE.2 k d cls dd _ e1 (aft hz h1) ?_
    obtain ⟨q1, q2, q3, q4⟩ := h2
    refine ⟨q1, q2, fun z => ?_, q4⟩
    obtain ⟨x, a, gs, u1, u2, u3, u4⟩ := q3 z
    refine ⟨x, a, gs, u1, u2, ext hz _ _ u3, ?_⟩
    unfold FldOk at u4 ⊢
    split at u4
    · rename_i hk
      rw [if_pos hk]
      obtain ⟨w1, v, w2, w3⟩ := u4
      exact ⟨w1, v, w2, w3.ext (ext hz)⟩
    · rename_i hk
      rw [if_neg hk]
      obtain ⟨v, w2, w3⟩ := u4
      exact ⟨v, w2, w3.ext (ext hz)⟩
/-- an action without an inner one -/
theorem act_runs0 (U : TxtE P K mg) {B H : Hp} {f : Addr} {F : NF} {p l wb lc lo : Addr} {pv : V} {wds f0 : List Int} {ps : List Pipe} {R : List En} {pl : Plan} {xs : List V} {Q : VK} {E : XK}
    (hA : ActAt H f F [.ref p, pv, .non, .ref lc]) (hBc : ∀ c, IsC F.cl c → B c = none) (hP : PlayAt K B H p l wb wds ps f0 R) (hpl : PlanAt K H pv lo pl) (hvpl : VPlan ps.length pl) (hF : ∀ e ∈ R, Fine wds ps e) (hR : R.length < 900)
    (hlc : H lc = some (.lst xs)) (hxl : xs.length < 900) (hBlc : B lc = none) (nlc : lc ≠ l) (nlo : lo ≠ l) (nll : lo ≠ lc)
    (hE : Ends2 K (fun H' => Aft K B [lc] p l wb wds ps f0 H H' ∧ H' lc = some (.lst (xs ++ [.int xs.length]))) (due0 wds ps f0 R pl fun _ => .told .non) Q E) : Runs P w K mg base 7 f [.ref p] H Q E :=
  act_runs U (j := 0) (k := 6) (by decide) (by decide) hA hBc hP hpl hvpl hF hR hlc hxl hBlc nlc nlo nll (SI := []) (fun _ h => absurd h (by simp)) (fun _ => .inl ⟨rfl, rfl⟩) hE
/-- an action with an inner one -/
theorem act_runs1 (U : TxtE P K mg) {B H : Hp} {f fi : Addr} {F Fi : NF} {p l wb lc lo lci lo2 : Addr} {pv pv2 : V} {wds f0 : List Int} {ps : List Pipe} {R : List En} {pl pl2 : Plan} {xs : List V} {Q : VK} {E : XK}
    (hA : ActAt H f F [.ref p, pv, .ref fi, .ref lc]) (hA2 : ActAt H fi Fi [.ref p, pv2, .non, .ref lci]) (d1 : ¬ IsC F.cl fi) (d2 : ¬ IsC F.cl Fi.c) (d3 : ∀ c, IsC Fi.cl c → ¬ IsC F.cl c) (hBc : ∀ c, IsC F.cl c → B c = none) (hBc2 : ∀ c, IsC Fi.cl c → B c = none)
    (hP : PlayAt K B H p l wb wds ps f0 R) (hpl : PlanAt K H pv lo pl) (hvpl : VPlan ps.length pl) (hpl2 : PlanAt K H pv2 lo2 pl2) (hvpl2 : VPlan ps.length pl2) (hF : ∀ e ∈ R, Fine wds ps e) (hR : R.length < 700)
    (hlc : H lc = some (.lst xs)) (hxl : xs.length < 900) (hBlc : B lc = none) (nlc : lc ≠ l) (nlo : lo ≠ l) (nll : lo ≠ lc) (hlci : H lci = some (.lst [])) (hBli : B lci = none) (m1 : lci ≠ lc) (m2 : lci ≠ lo) (m3 : lci ≠ l) (m4 : lo2 ≠ l) (m5 : lo2 ≠ lc) (m6 : lo2 ≠ lci)
    (hE : Ends2 K (fun H' => Aft K B [lc, lci] p l wb wds ps f0 H H' ∧ H' lc = some (.lst (xs ++ [.int xs.length]))) (due0 wds ps f0 R pl fun R2 => due0 wds ps f0 R2 pl2 fun _ => .told .non) Q E) : Runs P w K mg base 9 f [.ref p] H Q E := by
  obtain ⟨dx, b, zs, g1, _, g3, _⟩ := hP.ex
  obtain ⟨pa2, ys2, rfl, hp2, hlo2, hops2⟩ := hpl2
  have npi : ∀ {a : Addr} {ys : List V}, H a = some (.lst ys) → a ≠ p := fun {a ys} h z => by rw [z, g1] at h; cases h
  have C := hA.cl
  refine act_runs U (j := 7) (k := 8) (by decide) (by decide) hA hBc hP hpl hvpl hF (by omega) hlc hxl hBlc nlc nlo nll (SI := [lci]) (fun s hs => ?_) (fun _ => .inr ⟨fi, Fi, rfl, (hA2.cut d1 d2 d3).fn, fun H2 l2 R2 Q2 E2 k2 t2 P2 hl2 hF2 hR2 hE2 => ?_⟩) hE
  · rw [List.mem_singleton.mp hs]
    exact ⟨hBli, m1, m2, npi hlci, m3, _, hlci⟩
  · have keep : ∀ {a : Addr} {ys : List V}, H a = some (.lst ys) → a ≠ l → a ≠ lc → H2 a = some (.lst ys) ∧ a ≠ l2 := fun {a ys} h n1 n2 => by
      have n3 := npi h
      refine ⟨k2 _ _ (C.lst h) (by simp [n1, n2, n3]), fun z => ?_⟩
      rcases hl2 with y | y
      · exact n1 (z.trans y)
      · rw [← z, C.lst h] at y
        cases y
    have plain : ∀ s ∈ [p, l, lc], ∀ φ, cutC F.cl H s ≠ some (.ext φ) := fun s hs φ z => by
      obtain ⟨z1, _⟩ := cut_some z
      simp only [List.mem_cons, List.not_mem_nil, or_false] at hs
      rcases hs with rfl | rfl | rfl
      · rw [g1] at z1
        cases z1
      · rw [g3] at z1
        cases z1
      · rw [hlc] at z1
        cases z1
    obtain ⟨q1, q2⟩ := keep hlci m3 m1
    obtain ⟨q3, q4⟩ := keep hlo2 m4 m5
    refine act_runs0 U (lo := lo2) ((hA2.cut d1 d2 d3).kp k2 plain) hBc2 P2 ⟨pa2, ys2, rfl, t2.sqT (sqT_cut C _ _ hp2), q3, (hops2.cut C).tk t2 (pures_of pure_op _)⟩ hvpl2 hF2 (by omega) q1 (by decide) hBli q2 q4 m6 ⟨fun d v H' e1 h1 h2 => hE2.1 d v H' e1 h1.1 h2, fun k d cls dd H' e1 h1 h2 => hE2.2 k d cls dd H' e1 h1.1 h2⟩
end
end K14
end
section
/-! Except clauses, some with a name and some without. -/
namespace K14
open PySem PySem.Spec PyProof.Rows L2 RZ K14H NdefX LamX
/-- a clause: its class, the slot of its name, its suite's reading -/
structure Clause where
  cl : Value
  nm : Option Nat
  rd : Addr → Value → Option Addr → TS
/-- the name's slot is emptied at each end -/
def gone (i : Nat) (D : Ends) : Ends := { nx := fun τ G => D.nx (τ.set i none) G, rt := D.rt, bk := fun τ G => D.bk (τ.set i none) G, ct := fun τ G => D.ct (τ.set i none) G }
def Clause.wish (c : Clause) (D : Ends) (cls : Value) (d : Option Addr) (σ : L2.St) (H : Hp) : Prop := ∀ a, H a = none → match c.nm with
  | none => c.rd a cls d D σ H
  | some i => c.rd a cls d (gone i D) (σ.set i (some (.ref a))) H
def wMix (K : PySem.W.Frag) (Wo : WX) (D : Ends) : List Clause → WX
  | [] => Wo
  | c :: r => fun cls d σ H => ∃ yes, PySem.W.exmOne K cls c.cl = some yes ∧ (yes = true → c.wish D cls d σ H) ∧ (yes = false → wMix K Wo D r cls d σ H)
def SuiteOk (X : Cx) (sts : List Stmt) (ts : Addr → Value → Option Addr → TS) : Prop :=
  ∀ (a : Addr) (oe : Obj) (cls : Value) (d : Option Addr) (pn : List (Addr × Obj)), Zc cls d oe → (∃ vs, oe.data = .fields vs) → PSs (X.suite a ((a, oe) :: pn)) sts (ts a cls d)
inductive MixOk (X : Cx) : List ExceptHandler → List Clause → Prop
  | nil : MixOk X [] []
  | bare {x : Str} {c : Value} {ts : Addr → Value → Option Addr → TS} {b₀ : Stmt} {sts : List Stmt} {p1 p2 : Pos} {hds : List ExceptHandler} {l : List Clause} (hc : Names X x c) (hsu : SuiteOk X (b₀ :: sts) ts) (r : MixOk X hds l) :
      MixOk X (.ExceptHandler (some (.Name x p1)) none (b₀ :: sts) p2 :: hds) (⟨c, none, ts⟩ :: l)
  | named {x n : Str} {i : Nat} {c : Value} {ts : Addr → Value → Option Addr → TS} {b₀ : Stmt} {sts : List Stmt} {p1 p2 : Pos} {hds : List ExceptHandler} {l : List Clause} (hN : X.N.Nodup) (hi : X.N[i]? = some n) (hln : X.env.kindOf n = some .local) (hc : Names X x c)
      (hsu : SuiteOk X (b₀ :: sts) ts) (r : MixOk X hds l) : MixOk X (.ExceptHandler (some (.Name x p1)) (some n) (b₀ :: sts) p2 :: hds) (⟨c, some i, ts⟩ :: l)
section
variable {X : Cx} {body : List Stmt} {h₀ : ExceptHandler} {hds : List ExceptHandler} {l : List Clause} {pos : Pos} {tb : WX → TS} {Wo : WX}
theorem ps_try_mix (hst : X.stack = X.env :: X.outer) (hfr : X.env.frame = some X.env.locals) (tk : Takes X Wo)
    (hb : ∀ (W : WX) (pn : List (Addr × Obj)) (xe : Value → Shared → Prop), Takes (X.tr pn xe) W → PassesOwn (model X.prog X.w) X.A X.env xe → PSs (X.tr pn xe) body (tb W))
    (hh : MixOk X (h₀ :: hds) l) : PS X (.Try body (h₀ :: hds) [] [] pos) (fun D σ H => tb (wMix X.K Wo D l) D σ H) := by
  refine ⟨fun pins s σ H D I hw => ?_⟩
  have okX := I.ok
  have hfs : X.A.frames = some (X.env :: X.outer) := by rw [okX.frames, hst]
  let air : Value → Shared → Prop := fun e t1 => wpAny (model X.prog X.w) X.A (noteFrame e X.env) (fun _ t2 => wpAny (model X.prog X.w) X.A (setFlight e none) (fun _ t3 => wpAny (model X.prog X.w) X.A (handleBy e X.env (h₀ :: hds)) (SP X pins D) X.xe t3) X.xe t2) X.xe t1
  refine wpAny_Try_except (wpAny_mono ((hb (wMix X.K Wo D l) (X.pn ++ pins) air (fun u t xx => ?_) PassesOwn.looking).run [] s σ H D (I.toTry _) hw) (fun fl t z => ?_) fun _ _ z => z)
  · obtain ⟨a, G, sI, pins2, τ, H2, cls, d, rfl, J2, nb, up, sky, na, os, ag, ww⟩ := xx
    have J := J2.ofTry (X := X) (pins := pins) okX
    rw [hst] at sky
    show wpAny (model X.prog X.w) X.A (noteFrame (.ref a) X.env) _ _ _
    refine Sky.land Zc.steady hfs hfr sky fun h3 f3 u3 => ?_
    have J3 : Inv X pins τ H2 { t with heap := h3 } := J.landed nb f3.1 (up.trans u3) os ag
    obtain ⟨o3, v3, e3, z3, d3⟩ := f3.there
    have away : a ∉ frs (X.env :: X.outer) := fun hm => by
      obtain ⟨_, o', e', hn⟩ := f3.2.2.1.mem hm
      rw [e3] at e'
      cases e'
      exact hn _ d3
    have aL : a ≠ X.env.locals := fun z => away (List.mem_filterMap.mpr ⟨X.env, List.mem_cons_self, by rw [hfr, z]⟩)
    have aF : a ∉ X.fs := fun hm => by
      obtain ⟨e, he, q⟩ := List.mem_filterMap.mp hm
      exact away (List.mem_filterMap.mpr ⟨e, List.mem_cons_of_mem _ he, q⟩)
    have S3 := J3.suite e3 d3 na aL aF
    -- the class that a clause names
    have named : ∀ {x : Str} {c : Value} {np : Pos} {Q : Value → Shared → Prop} {E : Value → Shared → Prop}, Names X x c → Q c { t with heap := h3 } → wpAny (model X.prog X.w) (X.A.mark (some (.ref a))) (eval (.Name x np) X.env) Q E { t with heap := h3 } := fun {x c np Q E} hc q => by
      obtain ⟨g1, g2, g3 | ⟨g3, g4, g5⟩⟩ := hc
      · exact ld_glob S3 g1 g3 q g2
      · exact ld_blt S3 g1 g3 g4 q g5 g2
    have looks : PySem.W.Looks (model X.prog X.w) h3 (typeOf (.ref a)) cls := fun A Q E s k q => wpAny_typeOf_ref (k _ _ e3) (by rw [z3.1]; exact q)
    have go : ∀ {hs' : List ExceptHandler} {l' : List Clause}, MixOk X hs' l' → wMix X.K Wo D l' cls d τ H2 → wpAny (model X.prog X.w) X.A (handleBy (.ref a) X.env hs') (SP X pins D) X.xe { t with heap := h3 } := by
      intro hs' l' hk
      induction hk with
      | nil =>
        intro ww
        refine wpAny_handleBy_nil ?_
        obtain ⟨_, _, _, oe, vs, T, oT, tz, he, _, hd, h1, _⟩ := id f3
        unfold PySem.passOn
        refine wpAny_bind (wpAny_field he hd h1 ?_)
        rw [if_neg (show ¬ ((Value.ref T == Value.none) = true) from by simp)]
        have on : wpAny (model X.prog X.w) X.A (setFlight (.ref a) X.env.frame) (fun _ t4 => wpAny (model X.prog X.w) X.A (throw (.ref a) : Sem Flow) (SP X pins D) X.xe t4) X.xe { t with heap := h3 } := by
          rw [hfr]
          exact HandSPX.setFlight_upZ f3 fun h4 g4 u4 => wpAny_throw (tk _ _ ⟨a, G, sI, pins, τ, H2, cls, d, rfl, J, nb, (up.trans u3).trans u4, .inr (.inr (by rw [hst]; exact g4)), na, os, ag, ww⟩)
        first
          | exact wpAny_bind (wpAny_pure (wpAny_bind on))
          | exact wpAny_bind on
      | @bare x c ts b₀ sts p1 p2 hs2 l2 hc hsu r ih =>
        intro ww
        obtain ⟨yes, y1, y2, y3⟩ := ww
        have LM := PySem.W.exm_one (M := model X.prog X.w) J3.kIn looks y1
        refine wpAny_handleBy_cons (codeAny_handlers_test (named hc (LM.here ?_))) (by intro q; cases q)
        cases yes with
        | false => exact ih (y3 rfl)
        | true =>
          refine codeAny_handlers_suite (HandSPX.lands_againZ f3 fun h4 f4 u4 => ?_)
          obtain ⟨o4, v4, e4, z4, d4⟩ := f4.there
          have J4 : Inv X pins τ H2 { t with heap := h4 } := J.landed nb f4.1 ((up.trans u3).trans u4) os ag
          have S4 := J4.suite e4 d4 na aL aF
          refine wpAny_mono ((hsu a o4 cls d (X.pn ++ pins) z4 ⟨_, d4⟩).run [] _ _ H2 _ S4 (y2 rfl a na)) (fun fl t6 z => ?_) fun _ _ z => False.elim z
          cases fl with
          | ret u =>
            obtain ⟨v, τ6, H6, S6, rv, q⟩ := z
            exact ⟨_, _, _, S6.unsuite okX, rv, q⟩
          | next | brk | cont =>
            obtain ⟨τ6, H6, S6, q⟩ := z
            exact ⟨_, _, S6.unsuite okX, q⟩
      | @named x n i c ts b₀ sts p1 p2 hs2 l2 hN hi hln hc hsu r ih =>
        intro ww
        obtain ⟨yes, y1, y2, y3⟩ := ww
        have LM := PySem.W.exm_one (M := model X.prog X.w) J3.kIn looks y1
        refine wpAny_handleBy_cons (codeAny_handlers_test (named hc (LM.here ?_))) (by intro q; cases q)
        cases yes with
        | false => exact ih (y3 rfl)
        | true =>
          refine codeAny_handlers_suite_as (HandSPX.lands_againZ f3 fun h4 f4 u4 => ?_)
          obtain ⟨o4, v4, e4, z4, d4⟩ := f4.there
          have J4 : Inv X pins τ H2 { t with heap := h4 } := J.landed nb f4.1 ((up.trans u3).trans u4) os ag
          have S4 := J4.suite e4 d4 na aL aF
          refine store_ok (X := X.suite a ((a, o4) :: (X.pn ++ pins))) (v := .ref a) S4 hN hi (.inl hln) rfl (fun t5 S5 => ?_) (.inr hln)
          refine wpAny_mono ((hsu a o4 cls d (X.pn ++ pins) z4 ⟨_, d4⟩).run [] t5 _ H2 _ S5 (y2 rfl a na)) (fun fl t6 z => ?_) fun _ _ z => False.elim z
          cases fl with
          | ret u =>
            obtain ⟨v, τ6, H6, S6, rv, q⟩ := z
            exact gone_ok (S6.unsuite okX) hN hi hln fun t7 J7 => ⟨_, _, _, J7, rv, q⟩
          | next | brk | cont =>
            obtain ⟨τ6, H6, S6, q⟩ := z
            exact gone_ok (S6.unsuite okX) hN hi hln fun t7 J7 => ⟨_, _, J7, q⟩
    exact go hh ww
  · cases fl with
    | next =>
      obtain ⟨τ, H2, J2, q⟩ := z
      exact wpAny_execs_nil ⟨τ, H2, J2.ofTry okX, q⟩
    | ret u =>
      obtain ⟨v, τ, H2, J2, rv, q⟩ := z
      exact ⟨v, τ, H2, J2.ofTry okX, rv, q⟩
    | brk | cont =>
      obtain ⟨τ, H2, J2, q⟩ := z
      exact ⟨τ, H2, J2.ofTry okX, q⟩
end
end K14
end
section
/-! _law_first_told: what an action told or which error it raised. -/
namespace K14
open PySem PySem.Spec PyProof.Rows L2 RZ K14H NdefX LamX
abbrev s__law_first_told : Stmt := top 91
abbrev N__law_first_told : List Str := ["_law_action_here", "_law_found", "e"]
theorem sc__law_first_told : FnScope N__law_first_told ["_law_action_here"] (C8.fnScope s__law_first_told) := C8.fnScope_by (by decide +kernel)
/-- told of the slots' number too -/
theorem takes_len {X : Cx} {W : WX} (tk : L2.Takes X W) : L2.Takes X (fun cls d σ H => σ.length = X.N.length → W cls d σ H) := fun u s' ⟨a, B, sI, pins, σ, H, cls, d, e, I, nb, up, sky, na, os, ag, w⟩ =>
  tk u s' ⟨a, B, sI, pins, σ, H, cls, d, e, I, nb, up, sky, na, os, ag, w I.len⟩
/-- the row of the error tells it -/
def TTf (K : PySem.W.Frag) : (XK → Hp → VK → Prop) → Hp → VK → Prop := fun tl H Q =>
  tl (fun cls dd H' => ∃ k d, ExOf K H' k d cls dd ∧ ∀ v H2, Ext H' H2 → At K H2 (dOut (.raised k d)) v → Q v H2) H fun v H' => [V.str "told", v].length ≤ sizeLine ∧ ∀ t, H' t = none → ∃ u, some (some (V.ref t)) = some (some u) ∧ Q u (upd H' t (.tup [.str "told", v]))
def rdRow (k : Nat) (t : TE) : TS := tAsg (tTup (tCons (tC (.str "raised")) (tCons (tC (.int (k : Int))) (tCons t tNil)))) (gName 1)
def rdF (K : PySem.W.Frag) (k : Nat) (x f : Str) : Addr → Value → Option Addr → TS := fun a cls d => rdRow k (tXf a cls d (He.ga K x) f (tVar 2))
def rdP (K : PySem.W.Frag) : Addr → Value → Option Addr → TS := fun a cls d => rdRow 1 (tTup (tCons (tXf a cls d (He.ga K "BadAnswer") "one" (tVar 2)) (tCons (tXf a cls d (He.ga K "BadAnswer") "other" (tVar 2)) tNil)))
def rd0 (k : Nat) : Addr → Value → Option Addr → TS := fun _ _ _ => rdRow k (tC (.int 0))
def clausesF (K : PySem.W.Frag) : List Clause := [⟨.ref (He.ga K "NoName"), some 2, rdF K 0 "NoName" "name"⟩, ⟨.ref (He.ga K "BadAnswer"), some 2, rdP K⟩, ⟨.ref (He.ga K "BadOpening"), some 2, rdF K 2 "BadOpening" "filling"⟩, ⟨.ref (He.ga K "BadText"), some 2, rdF K 3 "BadText" "line"⟩, ⟨.ref (He.ga K "TooMany"), some 2, rdF K 4 "TooMany" "most"⟩, ⟨.ref (He.ga K "BadWeb"), some 2, rdF K 5 "BadWeb" "part"⟩, ⟨.ref (He.ga K "NoSights"), some 2, rdF K 6 "NoSights" "index"⟩, ⟨.ref (He.ga K "TooLarge"), some 2, rdF K 7 "TooLarge" "most"⟩, ⟨.ref (He.ga K "BadBook"), some 2, rdF K 8 "BadBook" "part"⟩, ⟨.ref (He.ga K "NoLine"), none, rd0 9⟩, ⟨.ref (He.ga K "NothingDone"), none, rd0 10⟩, ⟨.ref (He.ga K "NoNumber"), none, rd0 11⟩]
section
variable {K : PySem.W.Frag} {H : Hp} {cls : Value} {dd : Option Addr} {σ : L2.St} {Q : VK} {k : Nat} {d : D}
/-- what stands behind the try -/
def endF (Q : VK) : Ends := { nx := fun σ H => tRet (tVar 1) { nx := fun _ H' => Q .non H', rt := Q } σ H, rt := Q }
theorem st3 {x0 x1 x2 : Option V} (h : σ.length = 3) : ∃ x0 x1 x2, σ = [x0, x1, x2] := by
  match σ, h with
  | [a, b, c], _ => exact ⟨a, b, c, rfl⟩
/-- a row told -/
theorem row_ok {v : V} {x0 x2 y2 : Option V} {D : Ends} (hq : ∀ v H2, Ext H H2 → At K H2 (dOut (.raised k d)) v → Q v H2) (hv : At K H d v) (hD : ∀ t, D.nx [x0, some (.ref t), x2] (upd H t (.tup [.str "raised", .int (k : Int), v])) = tRet (tVar 1) { nx := fun _ H' => Q .non H', rt := Q } [x0, some (.ref t), y2] (upd H t (.tup [.str "raised", .int (k : Int), v]))) :
    3 ≤ sizeLine ∧ ∀ t, H t = none → D.nx [x0, some (.ref t), x2] (upd H t (.tup [.str "raised", .int (k : Int), v])) := by
  refine ⟨(by show 3 ≤ sizeLine; decide), fun t ht => ?_⟩
  rw [hD]
  exact ⟨_, rfl, hq _ _ (Ext.new ht) (raised_at (tupOf upd_same) (hv.ext (Ext.new ht)))⟩
end
section
variable {P : Program} {K : PySem.W.Frag} {mg : Str → Option Value}
theorem mix_ok (U : TxtE P K mg) {H : Hp} {cls : Value} {dd : Option Addr} {σ : L2.St} {Q : VK} {k : Nat} {d : D} (hσ : σ.length = 3) (hx : ExOf K H k d cls dd) (hq : ∀ v H2, Ext H H2 → At K H2 (dOut (.raised k d)) v → Q v H2) : wMix K (fun _ _ _ _ => False) (endF Q) (clausesF K) cls dd σ H := by
  have T := U.t
  obtain ⟨x0, x1, x2, rfl⟩ : ∃ x0 x1 x2, σ = [x0, x1, x2] := by
    match σ, hσ with
    | [a, b, c], _ => exact ⟨a, b, c, rfl⟩
  obtain ⟨rfl, hk, hf, h0⟩ := hx
  have hk' : k = 0 ∨ k = 1 ∨ k = 2 ∨ k = 3 ∨ k = 4 ∨ k = 5 ∨ k = 6 ∨ k = 7 ∨ k = 8 ∨ k = 9 ∨ k = 10 ∨ k = 11 := by omega
  rcases hk' with rfl | rfl | rfl | rfl | rfl | rfl | rfl | rfl | rfl | rfl | rfl | rfl
  · obtain ⟨x, a0, fs, rfl, rfl, hfs, hF⟩ := hf (by decide)
    obtain ⟨v, w2, w3⟩ : ∃ v, fs.lookup ("name" : Str) = some v ∧ At K H (fldD 0 x) v := hF
    refine ⟨true, T.x_NoName_NoName, fun _ a ha => ⟨_, rfl, rfl, rfl, a0, fs, v, rfl, hfs, w2, ?_⟩, (fun z => by cases z)⟩
    exact row_ok (d := fldD 0 x) (x2 := some (.ref a)) (D := gone 2 (endF Q)) hq w3 fun _ => rfl
  · obtain ⟨x, a0, fs, rfl, rfl, hfs, hF⟩ := hf (by decide)
    obtain ⟨w1, v, w2, w3⟩ : fs.lookup ("one" : Str) = some (.int x) ∧ ∃ v, fs.lookup ("other" : Str) = some v ∧ At K H (.tup [.int x, .int 1]) v := hF
    refine ⟨false, T.x_BadAnswer_NoName, (fun z => by cases z), fun _ => ⟨true, T.x_BadAnswer_BadAnswer, fun _ a ha => ⟨_, rfl, rfl, rfl, a0, fs, _, rfl, hfs, w1, _, rfl, rfl, rfl, a0, fs, v, rfl, hfs, w2, (by show 2 ≤ sizeLine; decide), fun t0 ht0 => ?_⟩, (fun z => by cases z)⟩⟩
    exact row_ok (d := fldD 1 x) (x2 := some (.ref a)) (D := gone 2 (endF Q)) (fun v H2 e2 h => hq v H2 ((Ext.new ht0).trans e2) h) ⟨t0, _, rfl, tupOf upd_same, _, _, rfl, rfl, _, _, rfl, w3.ext (Ext.new ht0), rfl⟩ fun _ => rfl
  · obtain ⟨x, a0, fs, rfl, rfl, hfs, hF⟩ := hf (by decide)
    obtain ⟨v, w2, w3⟩ : ∃ v, fs.lookup ("filling" : Str) = some v ∧ At K H (fldD 2 x) v := hF
    refine ⟨false, T.x_BadOpening_NoName, (fun z => by cases z), fun _ => ⟨false, T.x_BadOpening_BadAnswer, (fun z => by cases z), fun _ => ⟨true, T.x_BadOpening_BadOpening, fun _ a ha => ⟨_, rfl, rfl, rfl, a0, fs, v, rfl, hfs, w2, ?_⟩, (fun z => by cases z)⟩⟩⟩
    exact row_ok (d := fldD 2 x) (x2 := some (.ref a)) (D := gone 2 (endF Q)) hq w3 fun _ => rfl
  · obtain ⟨x, a0, fs, rfl, rfl, hfs, hF⟩ := hf (by decide)
    obtain ⟨v, w2, w3⟩ : ∃ v, fs.lookup ("line" : Str) = some v ∧ At K H (fldD 3 x) v := hF
    refine ⟨false, T.x_BadText_NoName, (fun z => by cases z), fun _ => ⟨false, T.x_BadText_BadAnswer, (fun z => by cases z), fun _ => ⟨false, T.x_BadText_BadOpening, (fun z => by cases z), fun _ => ⟨true, T.x_BadText_BadText, fun _ a ha => ⟨_, rfl, rfl, rfl, a0, fs, v, rfl, hfs, w2, ?_⟩, (fun z => by cases z)⟩⟩⟩⟩
    exact row_ok (d := fldD 3 x) (x2 := some (.ref a)) (D := gone 2 (endF Q)) hq w3 fun _ => rfl
  · obtain ⟨x, a0, fs, rfl, rfl, hfs, hF⟩ := hf (by decide)
    obtain ⟨v, w2, w3⟩ : ∃ v, fs.lookup ("most" : Str) = some v ∧ At K H (fldD 4 x) v := hF
    refine ⟨false, T.x_TooMany_NoName, (fun z => by cases z), fun _ => ⟨false, T.x_TooMany_BadAnswer, (fun z => by cases z), fun _ => ⟨false, T.x_TooMany_BadOpening, (fun z => by cases z), fun _ => ⟨false, T.x_TooMany_BadText, (fun z => by cases z), fun _ => ⟨true, T.x_TooMany_TooMany, fun _ a ha => ⟨_, rfl, rfl, rfl, a0, fs, v, rfl, hfs, w2, ?_⟩, (fun z => by cases z)⟩⟩⟩⟩⟩
    exact row_ok (d := fldD 4 x) (x2 := some (.ref a)) (D := gone 2 (endF Q)) hq w3 fun _ => rfl
  · obtain ⟨x, a0, fs, rfl, rfl, hfs, hF⟩ := hf (by decide)
    obtain ⟨v, w2, w3⟩ : ∃ v, fs.lookup ("part" : Str) = some v ∧ At K H (fldD 5 x) v := hF
    refine ⟨false, T.x_BadWeb_NoName, (fun z => by cases z), fun _ => ⟨false, T.x_BadWeb_BadAnswer, (fun z => by cases z), fun _ => ⟨false, T.x_BadWeb_BadOpening, (fun z => by cases z), fun _ => ⟨false, T.x_BadWeb_BadText, (fun z => by cases z), fun _ => ⟨false, T.x_BadWeb_TooMany, (fun z => by cases z), fun _ => ⟨true, T.x_BadWeb_BadWeb, fun _ a ha => ⟨_, rfl, rfl, rfl, a0, fs, v, rfl, hfs, w2, ?_⟩, (fun z => by cases z)⟩⟩⟩⟩⟩⟩
    exact row_ok (d := fldD 5 x) (x2 := some (.ref a)) (D := gone 2 (endF Q)) hq w3 fun _ => rfl
  · obtain ⟨x, a0, fs, rfl, rfl, hfs, hF⟩ := hf (by decide)
    obtain ⟨v, w2, w3⟩ : ∃ v, fs.lookup ("index" : Str) = some v ∧ At K H (fldD 6 x) v := hF
    refine ⟨false, T.x_NoSights_NoName, (fun z => by cases z), fun _ => ⟨false, T.x_NoSights_BadAnswer, (fun z => by cases z), fun _ => ⟨false, T.x_NoSights_BadOpening, (fun z => by cases z), fun _ => ⟨false, T.x_NoSights_BadText, (fun z => by cases z), fun _ => ⟨false, T.x_NoSights_TooMany, (fun z => by cases z), fun _ => ⟨false, T.x_NoSights_BadWeb, (fun z => by cases z), fun _ => ⟨true, T.x_NoSights_NoSights, fun _ a ha => ⟨_, rfl, rfl, rfl, a0, fs, v, rfl, hfs, w2, ?_⟩, (fun z => by cases z)⟩⟩⟩⟩⟩⟩⟩
    exact row_ok (d := fldD 6 x) (x2 := some (.ref a)) (D := gone 2 (endF Q)) hq w3 fun _ => rfl
  · obtain ⟨x, a0, fs, rfl, rfl, hfs, hF⟩ := hf (by decide)
    obtain ⟨v, w2, w3⟩ : ∃ v, fs.lookup ("most" : Str) = some v ∧ At K H (fldD 7 x) v := hF
    refine ⟨false, T.x_TooLarge_NoName, (fun z => by cases z), fun _ => ⟨false, T.x_TooLarge_BadAnswer, (fun z => by cases z), fun _ => ⟨false, T.x_TooLarge_BadOpening, (fun z => by cases z), fun _ => ⟨false, T.x_TooLarge_BadText, (fun z => by cases z), fun _ => ⟨false, T.x_TooLarge_TooMany, (fun z => by cases z), fun _ => ⟨false, T.x_TooLarge_BadWeb, (fun z => by cases z), fun _ => ⟨false, T.x_TooLarge_NoSights, (fun z => by cases z), fun _ => ⟨true, T.x_TooLarge_TooLarge, fun _ a ha => ⟨_, rfl, rfl, rfl, a0, fs, v, rfl, hfs, w2, ?_⟩, (fun z => by cases z)⟩⟩⟩⟩⟩⟩⟩⟩
    exact row_ok (d := fldD 7 x) (x2 := some (.ref a)) (D := gone 2 (endF Q)) hq w3 fun _ => rfl
  · obtain ⟨x, a0, fs, rfl, rfl, hfs, hF⟩ := hf (by decide)
    obtain ⟨v, w2, w3⟩ : ∃ v, fs.lookup ("part" : Str) = some v ∧ At K H (fldD 8 x) v := hF
    refine ⟨false, T.x_BadBook_NoName, (fun z => by cases z), fun _ => ⟨false, T.x_BadBook_BadAnswer, (fun z => by cases z), fun _ => ⟨false, T.x_BadBook_BadOpening, (fun z => by cases z), fun _ => ⟨false, T.x_BadBook_BadText, (fun z => by cases z), fun _ => ⟨false, T.x_BadBook_TooMany, (fun z => by cases z), fun _ => ⟨false, T.x_BadBook_BadWeb, (fun z => by cases z), fun _ => ⟨false, T.x_BadBook_NoSights, (fun z => by cases z), fun _ => ⟨false, T.x_BadBook_TooLarge, (fun z => by cases z), fun _ => ⟨true, T.x_BadBook_BadBook, fun _ a ha => ⟨_, rfl, rfl, rfl, a0, fs, v, rfl, hfs, w2, ?_⟩, (fun z => by cases z)⟩⟩⟩⟩⟩⟩⟩⟩⟩
    exact row_ok (d := fldD 8 x) (x2 := some (.ref a)) (D := gone 2 (endF Q)) hq w3 fun _ => rfl
  · have hd : d = .int 0 := h0 (by decide)
    subst hd
    refine ⟨false, T.x_NoLine_NoName, (fun z => by cases z), fun _ => ⟨false, T.x_NoLine_BadAnswer, (fun z => by cases z), fun _ => ⟨false, T.x_NoLine_BadOpening, (fun z => by cases z), fun _ => ⟨false, T.x_NoLine_BadText, (fun z => by cases z), fun _ => ⟨false, T.x_NoLine_TooMany, (fun z => by cases z), fun _ => ⟨false, T.x_NoLine_BadWeb, (fun z => by cases z), fun _ => ⟨false, T.x_NoLine_NoSights, (fun z => by cases z), fun _ => ⟨false, T.x_NoLine_TooLarge, (fun z => by cases z), fun _ => ⟨false, T.x_NoLine_BadBook, (fun z => by cases z), fun _ => ⟨true, T.x_NoLine_NoLine, fun _ a ha => ?_, (fun z => by cases z)⟩⟩⟩⟩⟩⟩⟩⟩⟩⟩
    exact row_ok (k := 9) (d := .int 0) (x0 := x0) (x2 := x2) (D := endF Q) hq rfl fun _ => rfl
  · have hd : d = .int 0 := h0 (by decide)
    subst hd
    refine ⟨false, T.x_NothingDone_NoName, (fun z => by cases z), fun _ => ⟨false, T.x_NothingDone_BadAnswer, (fun z => by cases z), fun _ => ⟨false, T.x_NothingDone_BadOpening, (fun z => by cases z), fun _ => ⟨false, T.x_NothingDone_BadText, (fun z => by cases z), fun _ => ⟨false, T.x_NothingDone_TooMany, (fun z => by cases z), fun _ => ⟨false, T.x_NothingDone_BadWeb, (fun z => by cases z), fun _ => ⟨false, T.x_NothingDone_NoSights, (fun z => by cases z), fun _ => ⟨false, T.x_NothingDone_TooLarge, (fun z => by cases z), fun _ => ⟨false, T.x_NothingDone_BadBook, (fun z => by cases z), fun _ => ⟨false, T.x_NothingDone_NoLine, (fun z => by cases z), fun _ => ⟨true, T.x_NothingDone_NothingDone, fun _ a ha => ?_, (fun z => by cases z)⟩⟩⟩⟩⟩⟩⟩⟩⟩⟩⟩
    exact row_ok (k := 10) (d := .int 0) (x0 := x0) (x2 := x2) (D := endF Q) hq rfl fun _ => rfl
  · have hd : d = .int 0 := h0 (by decide)
    subst hd
    refine ⟨false, T.x_NoNumber_NoName, (fun z => by cases z), fun _ => ⟨false, T.x_NoNumber_BadAnswer, (fun z => by cases z), fun _ => ⟨false, T.x_NoNumber_BadOpening, (fun z => by cases z), fun _ => ⟨false, T.x_NoNumber_BadText, (fun z => by cases z), fun _ => ⟨false, T.x_NoNumber_TooMany, (fun z => by cases z), fun _ => ⟨false, T.x_NoNumber_BadWeb, (fun z => by cases z), fun _ => ⟨false, T.x_NoNumber_NoSights, (fun z => by cases z), fun _ => ⟨false, T.x_NoNumber_TooLarge, (fun z => by cases z), fun _ => ⟨false, T.x_NoNumber_BadBook, (fun z => by cases z), fun _ => ⟨false, T.x_NoNumber_NoLine, (fun z => by cases z), fun _ => ⟨false, T.x_NoNumber_NothingDone, (fun z => by cases z), fun _ => ⟨true, T.x_NoNumber_NoNumber, fun _ a ha => ?_, (fun z => by cases z)⟩⟩⟩⟩⟩⟩⟩⟩⟩⟩⟩⟩
    exact row_ok (k := 11) (d := .int 0) (x0 := x0) (x2 := x2) (D := endF Q) hq rfl fun _ => rfl
end
theorem first_gives {X : Cx} (U : TxtE X.prog X.K X.mg) {g : Addr} {cdg : Value} {q : Str} : GivesTo X N__law_first_told "_law_first_told" (C8.fnScope s__law_first_told) g cdg (C8.fnBody s__law_first_told) "_law_action_here" q (TTf X.K) := by
  have T := U.t
  have XNoName : ExT X.K xNoName := U.ex _ (by simp [exs, xNoName])
  have XBadAnswer : ExT X.K xBadAnswer := U.ex _ (by simp [exs, xBadAnswer])
  have XBadOpening : ExT X.K xBadOpening := U.ex _ (by simp [exs, xBadOpening])
  have XBadText : ExT X.K xBadText := U.ex _ (by simp [exs, xBadText])
  have XTooMany : ExT X.K xTooMany := U.ex _ (by simp [exs, xTooMany])
  have XBadWeb : ExT X.K xBadWeb := U.ex _ (by simp [exs, xBadWeb])
  have XNoSights : ExT X.K xNoSights := U.ex _ (by simp [exs, xNoSights])
  have XTooLarge : ExT X.K xTooLarge := U.ex _ (by simp [exs, xTooLarge])
  have XBadBook : ExT X.K xBadBook := U.ex _ (by simp [exs, xBadBook])
  intro f c' s H Q tl act hc h
  refine ⟨_, pss_cons (ps_try_mix (X := (cxOf C8.CX0 X.prog X.w X.K X.mg X.base N__law_first_told "_law_first_told" (C8.fnScope s__law_first_told) g cdg X.A X.stack s H C8.E0).nox) (l := clausesF X.K)
      (tb := fun W D σ H => ∃ Ech : XK, (∀ cls d σ' H', Ech cls d H' → σ'.length = 3 → W cls d σ' H') ∧ tAsg (tTup (tCons (tC (.str "told")) (tCons (fun σZ HZ Q => σZ[0]? = some (some (.ref f)) ∧ HZ c' = some (CodeO c' q) ∧ tl Ech HZ Q) tNil))) (gName 1) D σ H)
      rfl rfl L2.takes0 (fun W pn xe tk _ => ⟨fun pins s' σ H' D I ⟨Ech, hW, h1⟩ => ?_⟩) 
      (.named (i := 2) sc__law_first_told.nd rfl rfl ⟨by rfl, by decide, .inl T.g_NoName⟩ (fun a oe cls d pn hz hf => (pss_one (ps_set (i := 1) sc__law_first_told.nd rfl (Or.inl rfl) (pe_tup (pa_cons pe_str (pa_cons pe_int (pa_cons (pe_xf XNoName.xf (XNoName.fld "name" (by decide)) hz hf (pv 2)) pa_nil))))))) 
      (.named (i := 2) sc__law_first_told.nd rfl rfl ⟨by rfl, by decide, .inl T.g_BadAnswer⟩ (fun a oe cls d pn hz hf => (pss_one (ps_set (i := 1) sc__law_first_told.nd rfl (Or.inl rfl) (pe_tup (pa_cons pe_str (pa_cons pe_int (pa_cons (pe_tup (pa_cons (pe_xf XBadAnswer.xf (XBadAnswer.fld "one" (by decide)) hz hf (pv 2)) (pa_cons (pe_xf XBadAnswer.xf (XBadAnswer.fld "other" (by decide)) hz hf (pv 2)) pa_nil))) pa_nil))))))) 
      (.named (i := 2) sc__law_first_told.nd rfl rfl ⟨by rfl, by decide, .inl T.g_BadOpening⟩ (fun a oe cls d pn hz hf => (pss_one (ps_set (i := 1) sc__law_first_told.nd rfl (Or.inl rfl) (pe_tup (pa_cons pe_str (pa_cons pe_int (pa_cons (pe_xf XBadOpening.xf (XBadOpening.fld "filling" (by decide)) hz hf (pv 2)) pa_nil))))))) 
      (.named (i := 2) sc__law_first_told.nd rfl rfl ⟨by rfl, by decide, .inl T.g_BadText⟩ (fun a oe cls d pn hz hf => (pss_one (ps_set (i := 1) sc__law_first_told.nd rfl (Or.inl rfl) (pe_tup (pa_cons pe_str (pa_cons pe_int (pa_cons (pe_xf XBadText.xf (XBadText.fld "line" (by decide)) hz hf (pv 2)) pa_nil))))))) 
      (.named (i := 2) sc__law_first_told.nd rfl rfl ⟨by rfl, by decide, .inl T.g_TooMany⟩ (fun a oe cls d pn hz hf => (pss_one (ps_set (i := 1) sc__law_first_told.nd rfl (Or.inl rfl) (pe_tup (pa_cons pe_str (pa_cons pe_int (pa_cons (pe_xf XTooMany.xf (XTooMany.fld "most" (by decide)) hz hf (pv 2)) pa_nil))))))) 
      (.named (i := 2) sc__law_first_told.nd rfl rfl ⟨by rfl, by decide, .inl T.g_BadWeb⟩ (fun a oe cls d pn hz hf => (pss_one (ps_set (i := 1) sc__law_first_told.nd rfl (Or.inl rfl) (pe_tup (pa_cons pe_str (pa_cons pe_int (pa_cons (pe_xf XBadWeb.xf (XBadWeb.fld "part" (by decide)) hz hf (pv 2)) pa_nil))))))) 
      (.named (i := 2) sc__law_first_told.nd rfl rfl ⟨by rfl, by decide, .inl T.g_NoSights⟩ (fun a oe cls d pn hz hf => (pss_one (ps_set (i := 1) sc__law_first_told.nd rfl (Or.inl rfl) (pe_tup (pa_cons pe_str (pa_cons pe_int (pa_cons (pe_xf XNoSights.xf (XNoSights.fld "index" (by decide)) hz hf (pv 2)) pa_nil))))))) 
      (.named (i := 2) sc__law_first_told.nd rfl rfl ⟨by rfl, by decide, .inl T.g_TooLarge⟩ (fun a oe cls d pn hz hf => (pss_one (ps_set (i := 1) sc__law_first_told.nd rfl (Or.inl rfl) (pe_tup (pa_cons pe_str (pa_cons pe_int (pa_cons (pe_xf XTooLarge.xf (XTooLarge.fld "most" (by decide)) hz hf (pv 2)) pa_nil))))))) 
      (.named (i := 2) sc__law_first_told.nd rfl rfl ⟨by rfl, by decide, .inl T.g_BadBook⟩ (fun a oe cls d pn hz hf => (pss_one (ps_set (i := 1) sc__law_first_told.nd rfl (Or.inl rfl) (pe_tup (pa_cons pe_str (pa_cons pe_int (pa_cons (pe_xf XBadBook.xf (XBadBook.fld "part" (by decide)) hz hf (pv 2)) pa_nil))))))) (.bare ⟨by rfl, by decide, .inl T.g_NoLine⟩ (fun a oe cls d pn hz hf => (pss_one (ps_set (i := 1) sc__law_first_told.nd rfl (Or.inl rfl) (pe_tup (pa_cons pe_str (pa_cons pe_int (pa_cons pe_int pa_nil))))))) (.bare ⟨by rfl, by decide, .inl T.g_NothingDone⟩ (fun a oe cls d pn hz hf => (pss_one (ps_set (i := 1) sc__law_first_told.nd rfl (Or.inl rfl) (pe_tup (pa_cons pe_str (pa_cons pe_int (pa_cons pe_int pa_nil))))))) (.bare ⟨by rfl, by decide, .inl T.g_NoNumber⟩ (fun a oe cls d pn hz hf => (pss_one (ps_set (i := 1) sc__law_first_told.nd rfl (Or.inl rfl) (pe_tup (pa_cons pe_str (pa_cons pe_int (pa_cons pe_int pa_nil))))))) .nil))))))))))))) (pss_one (ps_ret (pv 1))), ?_⟩
  · exact (pss_one (ps_set (X := ((cxOf C8.CX0 X.prog X.w X.K X.mg X.base N__law_first_told "_law_first_told" (C8.fnScope s__law_first_told) g cdg X.A X.stack s H C8.E0).tr pn xe)) (i := 1) sc__law_first_told.nd rfl (Or.inl rfl) (pe_tup (pa_cons pe_str (pa_cons (act _ pn xe Ech _ _ (takes_len tk) hW) pa_nil))))).run pins s' σ H' D I h1
  · refine ⟨fun cls dd H' => ∃ k d, ExOf X.K H' k d cls dd ∧ ∀ v H2, Ext H' H2 → At X.K H2 (dOut (.raised k d)) v → Q v H2, fun cls d σ' H' ⟨k, dd, hx, hq⟩ hl => mix_ok U hl hx hq, rfl, hc, h⟩
end K14
end
section
/-! What stays where tables of code objects grow; what is due is not deep; behind a try. -/
namespace K14
open PySem PySem.Spec PyProof.Rows L2 RZ K14H NdefX LamX
/-- no table is told of -/
def NoT (B : Hp) : Prop := ∀ b ps, B b ≠ some (.tbl ps)
def noT (H : Hp) : Hp := fun b => match H b with
  | some (.tbl _) => none
  | o => o
theorem noT_some {H : Hp} {b : Addr} {o : HO} (h : noT H b = some o) : H b = some o ∧ ∀ ps, o ≠ .tbl ps := by
  unfold noT at h
  split at h
  · cases h
  · rename_i n
    exact ⟨h, fun ps z => n ps (by rw [h, z])⟩
theorem noT_at {H : Hp} {b : Addr} {o : HO} (h : H b = some o) (n : ∀ ps, o ≠ .tbl ps) : noT H b = some o := by
  unfold noT
  rw [h]
  cases o <;> first
    | rfl
    | exact absurd rfl (n _)
theorem noT_none {H : Hp} {b : Addr} (h : H b = none) : noT H b = none := by
  unfold noT
  rw [h]
theorem noT_ext {H H' : Hp} (e : Ext H H') : Ext (noT H) H' := fun b o h => e _ _ (noT_some h).1
theorem noT_noT (H : Hp) : NoT (noT H) := fun b ps h => (noT_some h).2 ps rfl
section
variable {K : PySem.W.Frag} {B H H' : Hp}
theorem Ext.n (n : NoT B) (e : Ext B H) (x : ExtN H H') : Ext B H' := fun b o h => x b o (e b o h) fun ps z => n b ps (by rw [h, z])
theorem tkN (x : ExtN H H') : Tk H H' := ⟨fun b xs h => x _ _ h (by intro ps; simp), fun b o u h => x _ _ h (by intro ps; simp)⟩
theorem lstN (x : ExtN H H') {a : Addr} {xs : List V} (h : H a = some (.lst xs)) : H' a = some (.lst xs) := x _ _ h (by intro ps; simp)
theorem sqLN (x : ExtN H H') (a : Addr) (xs : List V) (h : SqL K H a xs) : SqL K H' a xs := by
  rcases h with (h | ⟨o, h⟩) | h
  · exact .inl (.inl (lstN x h))
  · exact .inl (.inr ⟨o, x _ _ h (by intro ps; simp)⟩)
  · exact .inr h
theorem At.n (x : ExtN H H') {d : D} {v : V} (h : At K H d v) : At K H' d v := h.sq (fun _ _ => (tkN x).sqT) (sqLN x)
theorem Ats.n (x : ExtN H H') {l : List D} {vs : List V} (h : Ats K H l vs) : Ats K H' l vs := h.sq (fun _ _ => (tkN x).sqT) (sqLN x)
theorem PlayAt.n {p l wb : Addr} {ws : List Int} {ps : List Pipe} {f0 : List Int} {R : List En} (P : PlayAt K B H p l wb ws ps f0 R) (n : NoT B) (x : ExtN H H') : PlayAt K B H' p l wb ws ps f0 R := by
  obtain ⟨dx, b, xs, h1, h2, h3, h4⟩ := P.ex
  exact ⟨⟨dx, b, xs, x _ _ h1 (by intro ps; simp), (tkN x).sqT h2, lstN x h3, h4.n x⟩, P.ext.n n x, P.web, P.bp, P.bl, P.vw, P.vp, P.vf, P.good⟩
theorem ModelAt.n {m l0 l1 l2 : Addr} {f0 : List Int} {R : List En} (M : ModelAt K H m l0 l1 l2 f0 R) (x : ExtN H H') : ModelAt K H' m l0 l1 l2 f0 R := by
  obtain ⟨xs, a1, a2⟩ := M.h0
  obtain ⟨ys, b1, b2⟩ := M.h1
  exact ⟨lstN x M.hm, ⟨xs, lstN x a1, a2.n x⟩, ⟨ys, lstN x b1, b2.n x⟩, lstN x M.h2, M.ne⟩
theorem SrcAt.n {src : Addr} (S : SrcAt B H src) (n : NoT B) (x : ExtN H H') : SrcAt B H' src := by
  obtain ⟨sc, ns, i, j, k, f, h1, h2⟩ := S.ex
  exact ⟨⟨sc, ns, i, j, k, f, lstN x h1, h2⟩, S.ext.n n x, S.out⟩
theorem SrcAt.no {src : Addr} (S : SrcAt B H src) : SrcAt (noT B) H src := by
  obtain ⟨sc, ns, i, j, k, f, h1, h2⟩ := S.ex
  exact ⟨⟨sc, ns, i, j, k, f, h1, noT_at h2 (by intro ps; simp)⟩, noT_ext S.ext, noT_none S.out⟩
theorem PlanAt.n {v : V} {lo : Addr} {pl : Plan} (h : PlanAt K H v lo pl) (x : ExtN H H') : PlanAt K H' v lo pl := by
  obtain ⟨a, xs, h1, h2, h3, h4⟩ := h
  exact ⟨a, xs, h1, (tkN x).sqT h2, lstN x h3, h4.n x⟩
theorem PlanAt.kp {S : List Addr} {v : V} {lo : Addr} {pl : Plan} (h : PlanAt K H v lo pl) (k : Kp S H H') (t : Tk H H') (n : lo ∉ S) : PlanAt K H' v lo pl := by
  obtain ⟨a, xs, h1, h2, h3, h4⟩ := h
  exact ⟨a, xs, h1, t.sqT h2, k _ _ h3 n, h4.tk t (pures_of pure_op _)⟩
theorem ActAt.n {f : Addr} {F : NF} {ws : List V} (A : ActAt H f F ws) (x : ExtN H H') : ActAt H' f F ws := by
  have e : ∀ b φ, H b = some (.ext φ) → H' b = some (.ext φ) := fun b φ h => x _ _ h (by intro ps; simp)
  refine ⟨e _ _ A.fn, e _ _ A.co, A.st, A.cl.len, A.cl.inj, fun y c h => ?_, fun i y v h1 h2 => ?_⟩
  · obtain ⟨v, hv⟩ := A.cl.mem y c h
    exact ⟨v, e _ _ hv⟩
  · obtain ⟨c, hc, hv⟩ := A.cl.has i y v h1 h2
    exact ⟨c, hc, e _ _ hv⟩
theorem sqT_no {a : Addr} {xs : List V} (h : SqT K H a xs) : SqT K (noT H) a xs := by
  rcases h with (h | ⟨o, h⟩) | h
  · exact .inl (.inl (noT_at h (by intro ps; simp)))
  · exact .inl (.inr ⟨o, noT_at h (by intro ps; simp)⟩)
  · exact .inr h
theorem sqL_no {a : Addr} {xs : List V} (h : SqL K H a xs) : SqL K (noT H) a xs := by
  rcases h with (h | ⟨o, h⟩) | h
  · exact .inl (.inl (noT_at h (by intro ps; simp)))
  · exact .inl (.inr ⟨o, noT_at h (by intro ps; simp)⟩)
  · exact .inr h
theorem WebAt.no {a : Addr} {ws : List Int} {ps : List Pipe} (h : WebAt K H a ws ps) : WebAt K (noT H) a ws ps := by
  obtain ⟨dx, wa, pa, ga, fs, xs, h1, h2, h3, h4, h5, h6, h7, h8⟩ := h.ex
  exact ⟨dx, wa, pa, ga, fs, xs, noT_at h1 (by intro ps; simp), h2, h3, h4, sqT_no h5, h6.sq (fun _ _ => sqT_no) fun _ _ => sqL_no, sqL_no h7, h8.sq (fun _ _ => sqT_no) fun _ _ => sqL_no⟩
/-- none of these is a table, a code object, a function or a cell -/
def Mild (H : Hp) (S : List Addr) : Prop := ∀ s ∈ S, (∀ ps, H s ≠ some (.tbl ps)) ∧ ∀ φ, H s ≠ some (.ext φ)
theorem mild_lst {a : Addr} {xs : List V} (h : H a = some (.lst xs)) : (∀ ps, H a ≠ some (.tbl ps)) ∧ ∀ φ, H a ≠ some (.ext φ) := by
  rw [h]
  exact ⟨(by intro ps z; cases z), (by intro ps z; cases z)⟩
theorem mild_ins {a C dx : Addr} {fs : List (Str × V)} (h : H a = some (.ins C dx fs)) : (∀ ps, H a ≠ some (.tbl ps)) ∧ ∀ φ, H a ≠ some (.ext φ) := by
  rw [h]
  exact ⟨(by intro ps z; cases z), (by intro ps z; cases z)⟩
theorem tabs_kp {S : List Addr} {Tb : List NTab} (t : TabsN Tb H) (k : Kp S H H') (m : Mild H S) : TabsN Tb H' := fun p hp => by
  obtain ⟨ps, h1, h2, h3⟩ := t p hp
  refine ⟨ps, k _ _ h1 fun z => (m _ z).1 ps h1, h2, fun pos cv hc => ?_⟩
  obtain ⟨c, e1, e2⟩ := h3 pos cv hc
  exact ⟨c, e1, k _ _ e2 fun z => (m _ z).2 _ e2⟩
end
/-! what is due is not deep -/
theorem Deep.up : ∀ {n : Nat} {d : D}, Deep n d → Deep (n + 1) d
  | 0, _, h => False.elim h
  | n + 1, .non, _ => trivial
  | n + 1, .int _, _ => trivial
  | n + 1, .str _, _ => trivial
  | n + 1, .tup l, h => ⟨h.1, fun d hd => Deep.up (h.2 d hd)⟩
  | n + 1, .lst l, h => ⟨h.1, fun d hd => Deep.up (h.2 d hd)⟩
def DeepO (n : Nat) : Out → Prop
  | .told d => Deep n d
  | .raised _ d => Deep n d
theorem fld_deep (n k : Nat) (x : Int) : Deep (n + 3) (fldD k x) := by
  match k with
  | 0 => trivial
  | 1 => exact ⟨(by show 2 < 1000; decide), fun d hd => by
      simp only [List.mem_cons, List.not_mem_nil, or_false] at hd
      rcases hd with rfl | rfl
      · trivial
      · exact ⟨(by show 2 < 1000; decide), fun d hd => by
          simp only [List.mem_cons, List.not_mem_nil, or_false] at hd
          rcases hd with rfl | rfl <;> trivial⟩⟩
  | 2 => exact ⟨(by show 1 < 1000; decide), fun d hd => by
      simp only [List.mem_cons, List.not_mem_nil, or_false] at hd
      subst hd
      trivial⟩
  | 3 => trivial
  | 4 => trivial
  | 5 => trivial
  | 6 => trivial
  | 7 => exact ⟨(by show 1 < 1000; decide), fun d hd => by
      simp only [List.mem_cons, List.not_mem_nil, or_false] at hd
      subst hd
      trivial⟩
  | 8 => trivial
  | n + 9 => trivial
theorem due0_deep {ws : List Int} {ps : List Pipe} {f0 : List Int} {R : List En} {pl : Plan} {inn : List En → Out} {n : Nat} (hw : ws.length ≤ 12) (h0 : VFil ws f0) (hF : ∀ e ∈ R, Fine ws ps e) (hv : VPlan ps.length pl) (hi : ∀ R2, (∀ e ∈ R2, Fine ws ps e) → DeepO (n + 2) (inn R2)) : DeepO (n + 3) (due0 ws ps f0 R pl inn) := by
  unfold due0
  split
  · trivial
  · have hF2 : ∀ e ∈ (tksN ws ps f0 R pl.ops).take ((tksN ws ps f0 R pl.ops).length - pl.back), Fine ws ps e := fun e he => tks_fine hF hv.2.2.1 e (List.mem_of_mem_take he)
    generalize (tksN ws ps f0 R pl.ops).take ((tksN ws ps f0 R pl.ops).length - pl.back) = R2 at hF2
    have hd := hi R2 hF2
    cases eo : inn R2 with
    | raised k d =>
      rw [eo] at hd
      exact Deep.up hd
    | told d =>
      rw [eo] at hd
      show DeepO (n + 3) (if pl.ending < 11 then .raised pl.ending (fldD pl.ending pl.part) else .told (endD f0 R2 d))
      split
      · exact fld_deep n pl.ending pl.part
      · refine ⟨by show 4 < 1000; decide, fun e he => ?_⟩
        simp only [List.mem_cons, List.not_mem_nil, or_false] at he
        rcases he with rfl | rfl | rfl | rfl
        · refine deep_ints n ?_
          have := (now_good h0 fun e he => (hF2 e he).1).1
          omega
        · trivial
        · trivial
        · exact hd
theorem due_deep {ws : List Int} {ps : List Pipe} {f0 : List Int} {R : List En} {pl : Plan} {wi : Option Plan} (hw : ws.length ≤ 12) (h0 : VFil ws f0) (hF : ∀ e ∈ R, Fine ws ps e) (hv : VPlan ps.length pl) (hwi : ∀ pl2, wi = some pl2 → VPlan ps.length pl2) : DeepO 5 (dueN ws ps f0 R pl wi) := by
  refine due0_deep (n := 2) hw h0 hF hv fun R2 h2 => ?_
  cases wi with
  | none => trivial
  | some pl2 => exact (due0_deep (n := 1) (inn := fun _ => .told .non) hw h0 h2 (hwi pl2 rfl) fun R3 _ => trivial)
section
variable {P : Program} {w : World} {K : PySem.W.Frag} {mg : Str → Option Value} {base : Heap}
theorem Runs.up {j k : Nat} {f : Addr} {vs : List V} {H : Hp} {Q : VK} {E : XK} (h : Runs P w K mg base j f vs H Q E) (le : j ≤ k) : Runs P w K mg base k f vs H Q E := fun A outer s us hr => h A outer s us (hr.mono le)
/-- the play with its list put back -/
theorem aft_back {B H H3 : Hp} {p l wb k' : Addr} {S : List Addr} {xs : List V} {wds : List Int} {ps : List Pipe} {f0 : List Int} {R : List En} (P1 : PlayAt K B H p l wb wds ps f0 R) (hl : H l = some (.lst xs)) (hk' : H k' = none) (hS : ∀ s ∈ S, ∃ o, H s = some o) (A : Aft K B S p l wb wds ps f0 (upd H k' (.lst xs)) H3) :
    ∃ dx4 b4 l4, H3 p = some (.ins (CP K) dx4 (plF wb b4 l4)) ∧ Kp (p :: l :: S) H (upd H3 p (.ins (CP K) dx4 (plF wb b4 k'))) ∧ Tk H (upd H3 p (.ins (CP K) dx4 (plF wb b4 k'))) ∧ PlayAt K B (upd H3 p (.ins (CP K) dx4 (plF wb b4 k'))) p k' wb wds ps f0 R := by
  obtain ⟨dx3, b3, zs3, q1, q2, q3, q4⟩ := P1.ex
  obtain rfl : zs3 = xs := by
    rw [hl] at q3
    cases q3
    rfl
  obtain ⟨kp, tk, l4, R4, P4⟩ := A
  obtain ⟨dx4, b4, zs4, g1, g2, g3, g4⟩ := P4.ex
  have ek : Ext H (upd H k' (.lst zs3)) := Ext.new hk'
  have nk : ∀ b o, H b = some o → k' ≠ b := fun b o e z => by
    rw [← z, hk'] at e
    cases e
  have nkS : k' ∉ p :: l :: S := by
    simp only [List.mem_cons, not_or]
    refine ⟨nk _ _ q1, nk _ _ q3, fun z => ?_⟩
    obtain ⟨o, ho⟩ := hS _ z
    exact nk _ _ ho rfl
  have hk3 : H3 k' = some (.lst zs3) := kp _ _ upd_same nkS
  have tt2 : Tk H3 (upd H3 p (.ins (CP K) dx4 (plF wb b4 k'))) := Tk.upd g1 trivial
  refine ⟨dx4, b4, l4, g1, (ek.kp.trans kp).trans (Kp.upd (by simp)), (ek.tk.trans tk).trans tt2, ⟨dx4, b4, zs3, upd_same, tt2.sqT g2, ?_, ?_⟩, ?_, P4.web, P4.bp, P1.ext.out hk', P4.vw, P4.vp, P4.vf, P1.good⟩
  · rw [upd_ne (nk _ _ q1)]
    exact hk3
  · exact q4.tk ((ek.tk.trans tk).trans tt2) (pures_of pure_en _)
  · exact P4.ext.under (S := [p]) (Kp.upd (by simp)) fun s hs => by rw [List.mem_singleton.mp hs]; exact P4.bp
end
end K14
end
section
/-! The law. -/
namespace K14
open PySem PySem.Spec PyProof.Rows L2 RZ K14H NdefX LamX
abbrev s_law : Stmt := top 96
abbrev N_law : List Str := ["_law_script", "_law_source_here", "_law_widths_here", "_law_pipes_here", "_law_filling_here", "_law_play", "_law_model", "_law_turn", "_law_step", "_law_opening_here", "_law_plan_here", "_law_within", "_law_inner", "_law_calls", "_law_action_here", "_law_due", "_law_found"]
theorem sc_law : FnScope N_law ["_law_script"] (C8.fnScope s_law) := C8.fnScope_by (by decide +kernel)
def qL : Str := "law.<locals>.<lambda>"
abbrev TN (PL PA : Addr) : List NTab := [(PL, fun _ _ => qL), (PA, nmA)]
abbrev TS2 (PL PA : Addr) : List (Addr × Str) := [(PL, qL), (PA, q_act)]
section
variable {P : Program} {w : World} {K : PySem.W.Frag} {mg : Str → Option Value} {base : Heap}
theorem web_less {H : Hp} {a src sc : Addr} {i j k f : Int} {ws : List Int} {ps : List Pipe} (h : WebAt K H a ws ps) (hs : H src = some (.lst [.ref sc, .int i, .int j, .int k, .int f])) : WebAt K (del H src) a ws ps := by
  obtain ⟨dx, wa, pa, ga, fs, xs, h1, h2, h3, h4, h5, h6, h7, h8⟩ := h.ex
  have ne : ∀ {b : Addr} {o : HO}, H b = some o → (∀ xs, o ≠ .lst xs) → del H src b = some o := fun {b o} e n => by
    rw [del_ne fun z => by rw [z, hs] at e; exact n _ (Option.some.inj e).symm]
    exact e
  have tk : Tk H (del H src) := ⟨fun b xs e => ne e (by intro ys; simp), fun b o u e => ne e (by intro ys; simp)⟩
  refine ⟨dx, wa, pa, ga, fs, xs, ne h1 (by intro ys; simp), h2, h3, h4, tk.sqT h5, h6.tk tk (pures_of pure_pipe _), ?_, h8.tk tk (pures_of (pure_gauge ws) _)⟩
  rcases h7 with (q | ⟨o, q⟩) | q
  · refine .inl (.inl ?_)
    rw [del_ne fun z => ?_]
    · exact q
    · rw [z, hs] at q
      cases q
      obtain ⟨d, hd, hat⟩ := h8.get (i := 1) (v := .int i) rfl
      rw [List.getElem?_map] at hd
      cases hp : ps[1]? with
      | none =>
        rw [hp] at hd
        cases hd
      | some pp =>
        rw [hp] at hd
        cases hd
        obtain ⟨b, ys, z, _⟩ := hat
        cases z
  · exact .inl (.inr ⟨o, ne q (by intro ys; simp)⟩)
  · exact .inr q
/-- what holds between the turns -/
structure LI (K : PySem.W.Frag) (PL PA : Addr) (Bs Bp H : Hp) (src wa pa p wb m l l0 l1 l2 : Addr) (wds : List Int) (ps : List Pipe) (f0 : List Int) (R : List En) : Prop where
  srcP : SrcAt Bs H src
  tabsP : TabsN (TN PL PA) H
  wsP : Is K H wa wds
  psP : At K H (.tup (ps.map dPipe)) (.ref pa)
  playP : PlayAt K Bp H p l wb wds ps f0 R
  modelP : ModelAt K H m l0 l1 l2 f0 R
  fineP : ∀ e ∈ R, Fine wds ps e
  neP : l ≠ m ∧ l ≠ l0 ∧ l ≠ l1 ∧ l ≠ l2 ∧ src ≠ l ∧ src ≠ m ∧ src ≠ l0 ∧ src ≠ l1 ∧ src ≠ l2
  bsP : Bs l = none ∧ Bs p = none ∧ Bs l0 = none ∧ Bs l1 = none ∧ Bs l2 = none
  bpP : Bp src = none ∧ Bp l0 = none ∧ Bp l1 = none ∧ Bp l2 = none
section
variable {K : PySem.W.Frag} {PL PA : Addr} {Bs Bp H H' : Hp} {src wa pa p wb m l l0 l1 l2 : Addr} {wds : List Int} {ps : List Pipe} {f0 : List Int} {R : List En}
theorem LI.pl (L : LI K PL PA Bs Bp H src wa pa p wb m l l0 l1 l2 wds ps f0 R) : ∃ dx b xs, H p = some (.ins (CP K) dx (plF wb b l)) ∧ H l = some (.lst xs) := by
  obtain ⟨dx, b, xs, h1, _, h2, _⟩ := L.playP.ex
  exact ⟨dx, b, xs, h1, h2⟩
theorem LI.pne (L : LI K PL PA Bs Bp H src wa pa p wb m l l0 l1 l2 wds ps f0 R) {x : Addr} {xs : List V} (h : H x = some (.lst xs)) : p ≠ x := fun z => by
  obtain ⟨dx, b, ys, h1, _⟩ := L.pl
  rw [z, h] at h1
  cases h1
theorem LI.dr (L : LI K PL PA Bs Bp H src wa pa p wb m l l0 l1 l2 wds ps f0 R) (d : Dr Bs src H H') : LI K PL PA Bs Bp H' src wa pa p wb m l l0 l1 l2 wds ps f0 R := by
  obtain ⟨xs, hs⟩ := L.srcP.lst
  obtain ⟨n1, n2, n3, n4, n5, n6, n7, n8, n9⟩ := L.neP
  have np := L.pne hs
  exact ⟨d.s, tabs_kp L.tabsP d.kp (fun s z => by rw [List.mem_singleton.mp z]; exact mild_lst hs), d.tk.sqT L.wsP, L.psP.tk d.tk (pures_of pure_pipe _), L.playP.kp d.kp (fun s z => by rw [List.mem_singleton.mp z]; exact L.bpP.1) (by simpa using np) (by simpa using n5.symm) d.tk,
    L.modelP.kp d.kp d.tk (by simpa using n6.symm) (by simpa using n7.symm) (by simpa using n8.symm) (by simpa using n9.symm), L.fineP, L.neP, L.bsP, L.bpP⟩
theorem LI.e (L : LI K PL PA Bs Bp H src wa pa p wb m l l0 l1 l2 wds ps f0 R) (e : Ext H H') : LI K PL PA Bs Bp H' src wa pa p wb m l l0 l1 l2 wds ps f0 R := L.dr ((Dr.refl L.srcP).ext e)
theorem LI.n (L : LI K PL PA Bs Bp H src wa pa p wb m l l0 l1 l2 wds ps f0 R) (ns : NoT Bs) (np : NoT Bp) (x : ExtN H H') (t : TabsN (TN PL PA) H') : LI K PL PA Bs Bp H' src wa pa p wb m l l0 l1 l2 wds ps f0 R :=
  ⟨L.srcP.n ns x, t, (tkN x).sqT L.wsP, L.psP.n x, L.playP.n np x, L.modelP.n x, L.fineP, L.neP, L.bsP, L.bpP⟩
end
theorem del_none {H : Hp} {a b : Addr} (h : H b = none) : del H a b = none := by
  by_cases z : b = a
  · rw [z, del_same]
  · rw [del_ne z, h]
theorem del_some {H : Hp} {a b : Addr} {o : HO} (h : del H a b = some o) : H b = some o := by
  by_cases z : b = a
  · rw [z, del_same] at h
    cases h
  · rw [del_ne z] at h
    exact h
/-- a new instance and its dict -/
theorem ext_ins {H : Hp} {x dx : Addr} {o1 o2 : HO} (hx : H x = none) (hd : H dx = none) (n : dx ≠ x) : Ext H (upd (upd H dx o1) x o2) := (Ext.new hd).trans (Ext.new ((upd_ne (Ne.symm n)).trans hx))
/-- the plan and the action that stand within -/
def InnAt (Z : Addr → NF → Addr → Addr → Prop) (K : PySem.W.Frag) (Bs Bp H : Hp) (n : Nat) (src p l m l0 l1 l2 lo : Addr) (wv iv : V) (wi : Option Plan) : Prop :=
  (wi = none ∧ wv = .non ∧ iv = .non) ∨ ∃ pl2 lo2 fi Fi lci, wi = some pl2 ∧ PlanAt K H wv lo2 pl2 ∧ VPlan n pl2 ∧ iv = .ref fi ∧ ActAt H fi Fi [.ref p, wv, .non, .ref lci] ∧ (∀ c, IsC Fi.cl c → Bp c = none) ∧ H lci = some (.lst []) ∧ Bp lci = none ∧ Bs lci = none ∧
    lci ≠ lo ∧ lci ≠ l ∧ lo2 ≠ l ∧ lo2 ≠ lci ∧ lci ∉ [src, m, l0, l1, l2] ∧ Z fi Fi lci lo2
section
variable {Z Z' : Addr → NF → Addr → Addr → Prop} {K : PySem.W.Frag} {Bs Bp H H' : Hp} {n : Nat} {src p l m l0 l1 l2 lo : Addr} {wv iv : V} {wi : Option Plan}
theorem InnAt.gx (h : InnAt Z K Bs Bp H n src p l m l0 l1 l2 lo wv iv wi) (x : ExtN H H') : InnAt Z K Bs Bp H' n src p l m l0 l1 l2 lo wv iv wi := by
  rcases h with h | ⟨pl2, lo2, fi, Fi, lci, h1, h2, h3, h4, h5, h6, h7, h8⟩
  · exact .inl h
  · exact .inr ⟨pl2, lo2, fi, Fi, lci, h1, h2.n x, h3, h4, h5.n x, h6, lstN x h7, h8⟩
theorem InnAt.e (h : InnAt Z K Bs Bp H n src p l m l0 l1 l2 lo wv iv wi) (e : Ext H H') : InnAt Z K Bs Bp H' n src p l m l0 l1 l2 lo wv iv wi := h.gx fun b o q _ => e b o q
theorem InnAt.more (h : InnAt Z K Bs Bp H n src p l m l0 l1 l2 lo wv iv wi) (hz : ∀ fi Fi lci lo2, H fi ≠ none → H Fi.c ≠ none → (∀ c, IsC Fi.cl c → H c ≠ none) → H lci ≠ none → H lo2 ≠ none → Z' fi Fi lci lo2) : InnAt Z' K Bs Bp H n src p l m l0 l1 l2 lo wv iv wi := by
  rcases h with h | ⟨pl2, lo2, fi, Fi, lci, h1, h2, h3, h4, h5, h6, h7, h8, h9, g1, g2, g3, g4, g5, _⟩
  · exact .inl h
  · refine .inr ⟨pl2, lo2, fi, Fi, lci, h1, h2, h3, h4, h5, h6, h7, h8, h9, g1, g2, g3, g4, g5, hz fi Fi lci lo2 ?_ ?_ (fun c ⟨y, hy⟩ => ?_) ?_ ?_⟩
    · rw [h5.fn]
      simp
    · rw [h5.co]
      simp
    · obtain ⟨v, hv⟩ := h5.cl.mem y c hy
      rw [hv]
      simp
    · rw [h7]
      simp
    · obtain ⟨_, _, _, _, e, _⟩ := h2
      rw [e]
      simp
theorem InnAt.within (h : InnAt Z K Bs Bp H n src p l m l0 l1 l2 lo wv iv wi) : WithinAt K H n wv wi := by
  rcases h with ⟨rfl, h, _⟩ | ⟨pl2, lo2, fi, Fi, lci, rfl, h2, h3, _⟩
  · exact h
  · exact ⟨⟨lo2, h2⟩, h3⟩
theorem InnAt.v2 (h : InnAt Z K Bs Bp H n src p l m l0 l1 l2 lo wv iv wi) {pl2 : Plan} (e : wi = some pl2) : VPlan n pl2 := by
  rcases h with ⟨rfl, h, _⟩ | ⟨pl3, lo2, fi, Fi, lci, rfl, h2, h3, _⟩
  · cases e
  · cases e
    exact h3
theorem tabs_of {PL PA : Addr} (t : TabsN (TN PL PA) H) : Tabs (TS2 PL PA) H := fun p hp => by
  simp only [TS2, List.mem_cons, List.not_mem_nil, or_false] at hp
  rcases hp with rfl | rfl
  · exact t (PL, fun _ _ => qL) List.mem_cons_self
  · exact t (PA, nmA) (List.mem_cons_of_mem _ List.mem_cons_self)
theorem tabs_to {PL PA : Addr} (t : Tabs (TS2 PL PA) H) : TabsN (TN PL PA) H := fun p hp => by
  simp only [TN, List.mem_cons, List.not_mem_nil, or_false] at hp
  rcases hp with rfl | rfl
  · exact t (PL, qL) List.mem_cons_self
  · exact t (PA, q_act) (List.mem_cons_of_mem _ List.mem_cons_self)
end
/-- no lists but those of one number -/
def Flat : D → Prop
  | .tup l => ∀ d ∈ l, Flat d
  | .lst l => ∃ x, l = [.int x]
  | _ => True
def FlatO : Out → Prop
  | .told d => Flat d
  | .raised _ d => Flat d
section
variable {K : PySem.W.Frag} {H H' : Hp}
theorem At.flat (eT : ∀ a xs, SqT K H a xs → SqT K H' a xs) (eL : ∀ a x, SqL K H a [.int x] → SqL K H' a [.int x]) : ∀ {n : Nat} {d : D} {v : V}, Deep n d → Flat d → At K H d v → At K H' d v
  | 0, _, _, z, _, _ => False.elim z
  | n + 1, .non, _, _, _, h => h
  | n + 1, .int _, _, _, _, h => h
  | n + 1, .str _, _, _, _, h => h
  | n + 1, .lst l, v, _, f, h => by
    obtain ⟨x, rfl⟩ : ∃ x, l = [.int x] := by
      unfold Flat at f
      exact f
    obtain ⟨a, xs, h1, h2, h3⟩ := h
    have e : xs = [V.int x] := ats_ints (is := [x]) h3
    subst e
    exact ⟨a, _, h1, eL _ _ h2, ints_ats [x]⟩
  | n + 1, .tup l, v, dp, f, h => by
    obtain ⟨a, xs, h1, h2, h3⟩ := h
    unfold Flat at f
    refine ⟨a, xs, h1, eT _ _ h2, ats_of h3.len fun i d v e1 e2 => ?_⟩
    obtain ⟨d', g1, g2⟩ := h3.get e2
    rw [e1] at g1
    cases g1
    have hm := List.mem_of_getElem? e1
    exact At.flat eT eL (dp.2 d hm) (f d hm) g2
theorem sqL1 {S : List Addr} (k : Kp S H H') (t : Tk H H') (n : ∀ s ∈ S, ∀ x, H s ≠ some (.lst [.int x])) (a : Addr) (x : Int) (h : SqL K H a [.int x]) : SqL K H' a [.int x] := by
  rcases h with (h | ⟨o, h⟩) | h
  · exact .inl (.inl (k _ _ h fun z => n _ z x h))
  · exact .inl (.inr ⟨o, t.2 _ _ _ h⟩)
  · exact .inr h
end
theorem fld_flat (k : Nat) (x : Int) : Flat (fldD k x) := by
  match k with
  | 0 => simp [fldD, Flat]
  | 1 => simp [fldD, Flat]
  | 2 => simp [fldD, Flat]
  | 3 => simp [fldD, Flat]
  | 4 => simp [fldD, Flat]
  | 5 => simp [fldD, Flat]
  | 6 => simp [fldD, Flat]
  | 7 => simp [fldD, Flat]
  | 8 => simp [fldD, Flat]
  | n + 9 => simp [fldD, Flat]
theorem due0_flat {ws : List Int} {ps : List Pipe} {f0 : List Int} {R : List En} {pl : Plan} {inn : List En → Out} (hi : ∀ R2, FlatO (inn R2)) : FlatO (due0 ws ps f0 R pl inn) := by
  unfold due0
  split
  · simp [FlatO, Flat]
  · generalize (tksN ws ps f0 R pl.ops).take ((tksN ws ps f0 R pl.ops).length - pl.back) = R2
    have hd := hi R2
    cases eo : inn R2 with
    | raised k d =>
      rw [eo] at hd
      exact hd
    | told d =>
      rw [eo] at hd
      show FlatO (if pl.ending < 11 then .raised pl.ending (fldD pl.ending pl.part) else .told (endD f0 R2 d))
      split
      · exact fld_flat pl.ending pl.part
      · have hd : Flat d := hd
        simp [FlatO, endD, Flat, dInts, hd]
theorem due_flat {ws : List Int} {ps : List Pipe} {f0 : List Int} {R : List En} {pl : Plan} {wi : Option Plan} : FlatO (dueN ws ps f0 R pl wi) := by
  refine due0_flat fun R2 => ?_
  cases wi with
  | none => simp [innN, FlatO, Flat]
  | some pl2 => exact due0_flat (inn := fun _ => .told .non) fun _ => by simp [FlatO, Flat]
theorem out_flat {o : Out} (h : FlatO o) : Flat (dOut o) := by
  cases o with
  | told d =>
    have h : Flat d := h
    simp [dOut, Flat, h]
  | raised k d =>
    have h : Flat d := h
    simp [dOut, Flat, h]
theorem out_deep {n : Nat} {o : Out} (h : DeepO (n + 1) o) : Deep (n + 2) (dOut o) := by
  cases o with
  | told d =>
    refine ⟨by show 2 < 1000; decide, fun e he => ?_⟩
    simp only [List.mem_cons, List.not_mem_nil, or_false] at he
    rcases he with rfl | rfl
    · trivial
    · exact h
  | raised k d =>
    refine ⟨by show 3 < 1000; decide, fun e he => ?_⟩
    simp only [List.mem_cons, List.not_mem_nil, or_false] at he
    rcases he with rfl | rfl | rfl
    · trivial
    · trivial
    · exact h
/-- the try, told -/
theorem try_told {P : Program} {w : World} {K : PySem.W.Frag} {mg : Str → Option Value} {base : Heap} (U : TxtE P K mg) {PL PA : Addr} {Bs Bp H : Hp} {src wa pa p wb m l l0 l1 l2 lc lo f : Addr} {F : NF} {wds : List Int} {ps : List Pipe} {f0 : List Int} {R : List En} {pl : Plan} {pv wv iv dv : V} {wi : Option Plan} {σ : L2.St} {Q : VK}
    (L : LI K PL PA Bs Bp H src wa pa p wb m l l0 l1 l2 wds ps f0 R) (hR : R.length < 700) (hpl : PlanAt K H pv lo pl) (hvpl : VPlan ps.length pl) (nlo : lo ≠ l) (nll : lo ≠ lc) (hlc : H lc = some (.lst [])) (hBlc : Bp lc = none) (hslc : Bs lc = none) (nlc : lc ≠ l) (nlm : lc ∉ [src, m, l0, l1, l2])
    (hact : ActAt H f F [.ref p, pv, iv, .ref lc]) (hcells : ∀ c, IsC F.cl c → Bp c = none) (hin : InnAt (fun fi Fi lci lo2 => ¬ IsC F.cl fi ∧ ¬ IsC F.cl Fi.c ∧ (∀ c, IsC Fi.cl c → ¬ IsC F.cl c) ∧ lci ≠ lc ∧ lo2 ≠ lc) K Bs Bp H ps.length src p l m l0 l1 l2 lo wv iv wi)
    (hdv : At K H (dOut (dueN wds ps f0 R pl wi)) dv) (hdp : DeepO 5 (dueN wds ps f0 R pl wi)) (s5 : σ[5]? = some (some (.ref p))) (s14 : σ[14]? = some (some (.ref f)))
    (hfin : ∀ fv H5 k, LI K PL PA Bs Bp H5 src wa pa p wb m k l0 l1 l2 wds ps f0 R → At K H5 (dOut (dueN wds ps f0 R pl wi)) fv → At K H5 (dOut (dueN wds ps f0 R pl wi)) dv → H5 lc = some (.lst [.int 0]) → Q fv H5) :
    TTf K (fun E H' Q' => tMetX (CP K) "trying" (sp_trying P w K mg base 9) (fun cls d _ H => E cls d H) (tVar 5) (tCons (tVar 14) tNil) σ H' Q') H Q := by
  obtain ⟨dx, b, xs, g1, _, g3, g4⟩ := L.playP.ex
  refine ⟨_, s5, p, dx, _, rfl, g1, rfl, _, s14, p, l, wb, b, dx, f, F, xs, rfl, g1, g3, hact.fn, fun k hk => ?_⟩
  have ek : Ext H (upd H k (.lst xs)) := Ext.new hk
  have npc : p ≠ lc := L.pne hlc
  obtain ⟨zsrc, hsrc⟩ := L.srcP.lst
  obtain ⟨u0, hu0, _⟩ := L.modelP.h0
  obtain ⟨u1, hu1, _⟩ := L.modelP.h1
  have hu2 := L.modelP.h2
  obtain ⟨e1, e2, e3, e4, e5, e6, e7, e8, e9⟩ := L.neP
  obtain ⟨q1, q2, q3, q4, q5⟩ := L.bsP
  obtain ⟨w1, w2, w3, w4⟩ := L.bpP
  have nk : ∀ {b : Addr} {o : HO}, H b = some o → k ≠ b := fun {b o} e z => by
    rw [← z, hk] at e
    cases e
  have post : ∀ (S : List Addr), (∀ s ∈ S, H s = some (.lst []) ∧ Bs s = none ∧ Bp s = none ∧ s ∉ [src, m, l0, l1, l2]) → ∀ H3, Aft K Bp S p l wb wds ps f0 (upd H k (.lst xs)) H3 → ∃ dx4 b4 l4, H3 p = some (.ins (CP K) dx4 (plF wb b4 l4)) ∧
      LI K PL PA Bs Bp (upd H3 p (.ins (CP K) dx4 (plF wb b4 k))) src wa pa p wb m k l0 l1 l2 wds ps f0 R ∧ At K (upd H3 p (.ins (CP K) dx4 (plF wb b4 k))) (dOut (dueN wds ps f0 R pl wi)) dv := by
    intro S hS H3 hA
    obtain ⟨dx4, b4, l4, i1, i2, i3, i4⟩ := aft_back L.playP g3 hk (fun s hs => ⟨_, (hS s hs).1⟩) hA
    have out : ∀ {x : Addr}, x ∈ [src, m, l0, l1, l2] → x ∉ S := fun hx z => (hS _ z).2.2.2 hx
    have apart : ∀ {x : Addr} {ys : List V}, x ∈ [src, m, l0, l1, l2] → H x = some (.lst ys) → x ≠ l → x ∉ p :: l :: S := fun {x ys} hx h n => by
      simp only [List.mem_cons, not_or]
      exact ⟨(L.pne h).symm, n, out hx⟩
    refine ⟨dx4, b4, l4, i1, ⟨?_, ?_, i3.sqT L.wsP, L.psP.tk i3 (pures_of pure_pipe _), i4, ?_, L.fineP, ?_, ⟨L.srcP.ext.out hk, q2, q3, q4, q5⟩, L.bpP⟩, ?_⟩
    · refine L.srcP.kp i2 (fun s z => ?_) (apart (by simp) hsrc e5)
      simp only [List.mem_cons] at z
      rcases z with rfl | rfl | z
      · exact q2
      · exact q1
      · exact (hS s z).2.1
    · refine tabs_kp L.tabsP i2 fun s z => ?_
      simp only [List.mem_cons] at z
      rcases z with rfl | rfl | z
      · exact mild_ins g1
      · exact mild_lst g3
      · exact mild_lst (hS s z).1
    · exact L.modelP.kp i2 i3 (apart (by simp) L.modelP.hm e1.symm) (apart (by simp) hu0 e2.symm) (apart (by simp) hu1 e3.symm) (apart (by simp) hu2 e4.symm)
    · exact ⟨nk L.modelP.hm, nk hu0, nk hu1, nk hu2, (nk hsrc).symm, e6, e7, e8, e9⟩
    · refine At.flat (fun a xs => i3.sqT) (sqL1 i2 i3 fun s z x hx => ?_) (out_deep hdp) (out_flat due_flat) hdv
      simp only [List.mem_cons] at z
      rcases z with rfl | rfl | z
      · rw [g1] at hx
        cases hx
      · rw [g3] at hx
        cases hx
        obtain ⟨d, hd, hat⟩ := g4.get (i := 0) (v := .int x) rfl
        rw [List.getElem?_map] at hd
        cases hr : R[0]? with
        | none =>
          rw [hr] at hd
          cases hd
        | some e =>
          rw [hr] at hd
          cases hd
          obtain ⟨a, ys, z, _⟩ := hat
          cases z
      · rw [(hS s z).1] at hx
        cases hx
  have endT : ∀ (S : List Addr), (∀ s ∈ S, H s = some (.lst []) ∧ Bs s = none ∧ Bp s = none ∧ s ∉ [src, m, l0, l1, l2]) → ∀ H3 d v, dueN wds ps f0 R pl wi = .told d → Aft K Bp S p l wb wds ps f0 (upd H k (.lst xs)) H3 → H3 lc = some (.lst [.int 0]) → At K H3 d v →
      setPast K p k H3 fun H4 => [V.str "told", v].length ≤ sizeLine ∧ ∀ t, H4 t = none → ∃ u, some (some (V.ref t)) = some (some u) ∧ Q u (upd H4 t (.tup [.str "told", v])) := by
    intro S hS H3 d v ed hA c3 hat
    obtain ⟨dx4, b4, l4, i1, i2, i3⟩ := post S hS H3 hA
    refine ⟨dx4, wb, b4, l4, i1, (by show 2 ≤ sizeLine; decide), fun t ht => ⟨_, rfl, hfin _ _ k (i2.e (Ext.new ht)) ?_ (i3.ext (Ext.new ht)) (Ext.new ht _ _ ((upd_ne npc.symm).trans c3))⟩⟩
    rw [ed]
    exact told_at (tupOf upd_same) ((hat.ins i1).ext (Ext.new ht))
  have endE : ∀ (S : List Addr), (∀ s ∈ S, H s = some (.lst []) ∧ Bs s = none ∧ Bp s = none ∧ s ∉ [src, m, l0, l1, l2]) → ∀ H3 kd d cls dd, dueN wds ps f0 R pl wi = .raised kd d → Aft K Bp S p l wb wds ps f0 (upd H k (.lst xs)) H3 → H3 lc = some (.lst [.int 0]) → ExOf K H3 kd d cls dd →
      setPast K p k H3 fun H4 => ∃ k d, ExOf K H4 k d cls dd ∧ ∀ v H2, Ext H4 H2 → At K H2 (dOut (.raised k d)) v → Q v H2 := by
    intro S hS H3 kd d cls dd ed hA c3 hx
    obtain ⟨dx4, b4, l4, i1, i2, i3⟩ := post S hS H3 hA
    refine ⟨dx4, wb, b4, l4, i1, kd, d, hx.ins i1, fun v H2 ee hat => hfin _ _ k (i2.e ee) ?_ (i3.ext ee) (ee _ _ ((upd_ne npc.symm).trans c3))⟩
    rw [ed]
    exact hat
  have lcS : H lc = some (.lst []) ∧ Bs lc = none ∧ Bp lc = none ∧ lc ∉ [src, m, l0, l1, l2] := ⟨hlc, hslc, hBlc, nlm⟩
  have hact2 : ActAt (upd H k (.lst xs)) f F [.ref p, pv, iv, .ref lc] := hact.kp (S := []) ek.kp (by simp)
  rcases hin with ⟨rfl, rfl, rfl⟩ | ⟨pl2, lo2, fi, Fi, lci, rfl, hpl2, hv2, rfl, hact3, hc3, hlci, hbl, hsl, j1, j2, j3, j4, j5, m1, m2, m3, m4, m5⟩
  · have hS : ∀ s ∈ [lc], H s = some (.lst []) ∧ Bs s = none ∧ Bp s = none ∧ s ∉ [src, m, l0, l1, l2] := fun s hs => by rw [List.mem_singleton.mp hs]; exact lcS
    exact (act_runs0 U hact2 hcells (L.playP.e ek) (hpl.e ek) hvpl L.fineP (by omega) (ek _ _ hlc) (by decide) hBlc nlc nlo nll ⟨fun d v H3 ed ⟨A3, c3⟩ hat => endT [lc] hS H3 d v ed A3 c3 hat, fun kd d cls dd H3 ed ⟨A3, c3⟩ hx => endE [lc] hS H3 kd d cls dd ed A3 c3 hx⟩).up (by decide)
  · have hS : ∀ s ∈ [lc, lci], H s = some (.lst []) ∧ Bs s = none ∧ Bp s = none ∧ s ∉ [src, m, l0, l1, l2] := fun s hs => by
      simp only [List.mem_cons, List.not_mem_nil, or_false] at hs
      rcases hs with rfl | rfl
      · exact lcS
      · exact ⟨hlci, hsl, hbl, j5⟩
    exact act_runs1 U hact2 (hact3.kp (S := []) ek.kp (by simp)) m1 m2 m3 hcells hc3 (L.playP.e ek) (hpl.e ek) hvpl (hpl2.e ek) hv2 L.fineP (by omega) (ek _ _ hlc) (by decide) hBlc nlc nlo nll (ek _ _ hlci) hbl m4 j1 j2 j3 m5 j4
      ⟨fun d v H3 ed ⟨A3, c3⟩ hat => endT [lc, lci] hS H3 d v ed A3 c3 hat, fun kd d cls dd H3 ed ⟨A3, c3⟩ hx => endE [lc, lci] hS H3 kd d cls dd ed A3 c3 hx⟩
/-- an outcome's row without its last -/
def preO : Out → List V
  | .told _ => [.str "told"]
  | .raised k _ => [.str "raised", .int (k : Int)]
def lastO : Out → D
  | .told d => d
  | .raised _ d => d
def datO : Out → PyData
  | .told _ => .tuple [.str "told"]
  | .raised k _ => .tuple [.str "raised", .int (k : Int)]
section
variable {K : PySem.W.Frag} {H : Hp}
theorem at_out {o : Out} {v : V} (h : At K H (dOut o) v) : ∃ a u, v = .ref a ∧ SqT K H a (preO o ++ [u]) ∧ At K H (lastO o) u := by
  cases o with
  | told d =>
    obtain ⟨a, u, h1, h2, h3⟩ := at_told h
    exact ⟨a, u, h1, h2, h3⟩
  | raised k d =>
    obtain ⟨a, u, h1, h2, h3⟩ := at_raised h
    exact ⟨a, u, h1, h2, h3⟩
theorem cut_pre (o : Out) (u : V) : cutV (preO o ++ [u]) none (some (-1)) = preO o := by
  cases o <;> rfl
theorem pre_cut (o : Out) (u : V) : ¬ (HT.sIx (preO o ++ [u]).length 0 none = 0 ∧ HT.sIx (preO o ++ [u]).length (preO o ++ [u]).length (some (-1)) = (preO o ++ [u]).length) := by
  cases o with
  | told d =>
    intro z
    have z := z.2
    have e : HT.sIx 2 2 (some (-1)) = 1 := by decide
    have z : HT.sIx 2 2 (some (-1)) = 2 := z
    omega
  | raised k d =>
    intro z
    have z := z.2
    have e : HT.sIx 3 3 (some (-1)) = 2 := by decide
    have z : HT.sIx 3 3 (some (-1)) = 3 := z
    omega
theorem dat_ok {o : Out} {t : Addr} (h : SqT K H t (preO o)) : Dp K H (.ref t) (datO o) := by
  cases o with
  | told d => exact .tup h (.cons (.str _) .nil)
  | raised k d => exact .tup h (.cons (.str _) (.cons (.int _) .nil))
theorem dat_shaped (o : Out) : SeqAt.shaped (datO o) = true := by
  cases o <;> simp [datO, SeqAt.shaped, PyData.canLay0, PyData.canLayAll0, PyData.depth, PyData.depthAll] <;> decide +kernel
theorem dat_eq (o : Out) : PyData.eqv (datO o) (datO o) = true := by
  cases o with
  | told d => rfl
  | raised k d => simp [datO, PyData.eqv, PyData.eqvAll]
theorem last_at (o : Out) (u : V) : atI (preO o ++ [u]) (-1) = some u := by
  cases o <;> rfl
end
theorem ifTail2 {c : Bool} {A : Prop} {D : Ends} {σ : L2.St} {H : Hp} (G : L2.St → Hp → Prop) (tail : ∀ σ' H', G σ' H' → tNext D σ' H') (hA : c = true → (∀ σ' H', G σ' H' → tNext D σ' H') → A) (hB : c = false → G σ H) : if c = true then A else tNext D σ H := by
  cases c
  · exact tail _ _ (hB rfl)
  · exact hA rfl tail
theorem units_ok {A : Around} (hr : Room 12 A) : A.units + 64 < cLine := by
  have := hr.un
  omega
def sp_law (K : PySem.W.Frag) (PL PA : Addr) : Sp := fun vs H Q _ => ∃ (a : Addr) (ns : List Int), vs = [.ref a] ∧ SqL K H a (ns.map .int) ∧ TabsN (TN PL PA) H ∧ ∀ H', Q (.bl true) H'
theorem ok_law (U : TxtE P K mg) {cL cA PL PA : Addr} {f : Addr} {fd : FuncData} (d : C8.Def K mg "law" s_law f fd) (hcd : fd.code = .ref cL) (DA : DefC K mg "_law_action" s__law_action frA cA) (TL : TabB base mg cL PL) (TA : TabB base mg cA PA) (hne : PL ≠ PA) :
    FnOk P w K mg base C8.CX0 13 f fd ["_law_script"] (sp_law K PL PA) := by
  have T := U.t
  obtain ⟨oc, od, dV, kV, doc, pm, an, cdv, ct, osl, rfl, lk, hci⟩ := d.fn.ex
  have hcd : cdv = .ref cL := hcd
  subst hcd
  obtain ⟨fF, fdF, dF, bF⟩ := T.d__law_first_told
  obtain ⟨ocF, odF, dVF, kVF, docF, pmF, anF, cdF, ctF, oslF, rfl, lkF, hcF⟩ := dF.fn.ex
  have huA : ∀ p ∈ TN PL PA, p.1 = PA → p.2 = nmA := fun p hp e => by
    simp only [TN, List.mem_cons, List.not_mem_nil, or_false] at hp
    rcases hp with rfl | rfl
    · exact absurd e hne
    · rfl
  have huL : ∀ p ∈ TS2 PL PA, p.1 = PL → p.2 = qL := fun p hp e => by
    simp only [TS2, List.mem_cons, List.not_mem_nil, or_false] at hp
    rcases hp with rfl | rfl
    · rfl
    · exact absurd e.symm hne
  refine fn_of lk hci sc_law (fun vs H Q E ⟨a, ns, e, _⟩ => by rw [e]; rfl) fun A outer s H vs Q E hr h => ⟨_, PSs.nox (X := cxOf C8.CX0 P w K mg base N_law "law" (C8.fnScope s_law) f (.ref cL) A outer s H E) ((pss_cons (ps_set (i := 1) sc_law.nd rfl (Or.inl rfl) (C8.pe_c (c__law_source T) hr (by decide) (by rfl) (pa_cons (pv 0) pa_nil)))
    (pss_cons (ps_set (i := 2) sc_law.nd rfl (Or.inl rfl) (C8.pe_c (c__law_widths T) hr (by decide) (by rfl) (pa_cons (pv 1) (pa_cons (pe_op op_add pe_int (C8.pe_c (c__law_draw T) hr (by decide) (by rfl) (pa_cons (pv 1) (pa_cons pe_int pa_nil)))) (pa_cons pe_bl pa_nil)))))
    (pss_cons (ps_set (i := 3) sc_law.nd rfl (Or.inl rfl) (C8.pe_c (c__law_pipes T) hr (by decide) (by rfl) (pa_cons (pv 1) (pa_cons (pe_callB call_len_seq (by rfl) T.z_len (by decide +kernel) (pa_cons (pv 2) pa_nil)) (pa_cons (C8.pe_c (c__law_draw T) hr (by decide) (by rfl) (pa_cons (pv 1) (pa_cons pe_int pa_nil))) (pa_cons pe_int (pa_cons pe_bl pa_nil)))))))
    (pss_cons (ps_set (i := 4) sc_law.nd rfl (Or.inl rfl) (C8.pe_c (c__law_filling T) hr (by decide) (by rfl) (pa_cons (pv 1) (pa_cons (pv 2) (pa_cons pe_int (pa_cons pe_bl pa_nil))))))
    (pss_cons (ps_set (i := 5) sc_law.nd rfl (Or.inr rfl) (C8.pe_mk (c_mkPlay T) hr (by decide) (by rfl) (pa_cons (C8.pe_mk (c_mkWeb T) hr (by decide) (by rfl) (pa_cons (pv 2) (pa_cons (pv 3) pa_nil))) (pa_cons (pv 4) pa_nil))))
    (pss_cons (ps_set (i := 6) sc_law.nd rfl (Or.inl rfl) (pe_lst (pa_cons (pe_lst (pa_cons (pv 4) pa_nil)) (pa_cons (pe_lst pa_nil) (pa_cons (pe_lst pa_nil) pa_nil)))))
    (pss_cons (ps_for PassesOwn.never rfl (pi_range1 (by rfl) T.z_range (pa_cons (pe_op op_add pe_int (C8.pe_c (c__law_draw T) hr (by decide) (by rfl) (pa_cons (pv 1) (pa_cons pe_int pa_nil)))) pa_nil)) (pg_name (i := 7) sc_law.nd rfl (Or.inl rfl))
      (pss_cons (ps_for PassesOwn.never rfl (pi_range1 (by rfl) T.z_range (pa_cons (C8.pe_c (c__law_draw T) hr (by decide) (by rfl) (pa_cons (pv 1) (pa_cons pe_int pa_nil))) pa_nil)) (pg_name (i := 8) sc_law.nd rfl (Or.inl rfl))
      (pss_cons (ps_set (i := 9) sc_law.nd rfl (Or.inl rfl) (C8.pe_c (c__law_opening T) hr (by decide) (by rfl) (pa_cons (pv 1) (pa_cons (pe_callB call_len_seq (by rfl) T.z_len (by decide +kernel) (pa_cons (pv 3) pa_nil)) pa_nil))))
    (pss_one (ps_if (pt_not (pt_val (C8.pe_c (c__law_same T 5) hr (by decide) (by rfl) (pa_cons (C8.pe_mt (m_tick T) hr (by decide) (pv 5) (pa_cons (pv 9) pa_nil)) (pa_cons (C8.pe_c (c__law_model_tick T) hr (by decide) (by rfl) (pa_cons (pv 2) (pa_cons (pv 3) (pa_cons (pv 6) (pa_cons (pv 9) pa_nil))))) pa_nil))))) (pss_one (ps_ret pe_bl)) pss_nil))))
    (pss_cons (ps_set (i := 10) sc_law.nd rfl (Or.inl rfl) (C8.pe_c (c__law_plan T) hr (by decide) (by rfl) (pa_cons (pv 1) (pa_cons (pv 3) pa_nil))))
    (pss_cons (ps_set (i := 11) sc_law.nd rfl (Or.inl rfl) pe_non)
    (pss_cons (ps_set (i := 12) sc_law.nd rfl (Or.inl rfl) pe_non)
    (pss_cons (ps_if (pt_cmpR op_eq (C8.pe_c (c__law_draw T) hr (by decide) (by rfl) (pa_cons (pv 1) (pa_cons pe_int pa_nil))) pe_int (nomark _)) (pss_cons (ps_set (i := 11) sc_law.nd rfl (Or.inl rfl) (C8.pe_c (c__law_plan T) hr (by decide) (by rfl) (pa_cons (pv 1) (pa_cons (pv 3) pa_nil))))
    (pss_one (ps_set (i := 12) sc_law.nd rfl (Or.inl rfl) (C8.pe_c (c__law_action DA TA (Tb := TN PL PA) (by simp [TN]) huA 0) hr (by decide) (by rfl) (pa_cons (pv 5) (pa_cons (pv 11) (pa_cons pe_non (pa_cons (pe_lst pa_nil) pa_nil)))))))) pss_nil)
    (pss_cons (ps_set (i := 13) sc_law.nd rfl (Or.inl rfl) (pe_lst pa_nil))
    (pss_cons (ps_set (i := 14) sc_law.nd rfl (Or.inr rfl) (C8.pe_c (c__law_action DA TA (Tb := TN PL PA) (by simp [TN]) huA 0) hr (by decide) (by rfl) (pa_cons (pv 5) (pa_cons (pv 10) (pa_cons (pv 12) (pa_cons (pv 13) pa_nil))))))
    (pss_cons (ps_set (i := 15) sc_law.nd rfl (Or.inl rfl) (C8.pe_c (c_due T) hr (by decide) (by rfl) (pa_cons (pv 2) (pa_cons (pv 3) (pa_cons (pv 6) (pa_cons (pv 10) (pa_cons (pv 11) pa_nil)))))))
    (pss_cons (ps_set (i := 16) sc_law.nd rfl (Or.inl rfl) (pe_lamcall (X := (cxOf C8.CX0 P w K mg base N_law "law" (C8.fnScope s_law) f (.ref cL) A outer s H E).nox) (T := TS2 PL PA) (TT := TTf K) (a := "_law_action_here") (k := 10) (Ng := N__law_first_told) (by rfl) dF.mgf dF.kp lkF hcF bF sc__law_first_told rfl (Or.inl (by rfl)) (first_gives U) TL rfl List.mem_cons_self huL hr (lamS_by (sc := C8.fnScope s_law) (by decide +kernel)) rfl (fun _ _ _ _ _ => rfl) (fun A outer s H E f c' hr2 => pe_mX (m_trying (P := P) (w := w) (base := base) T 9) hr2 (Nat.le_refl _) (takes_of rfl rfl rfl rfl) (pv 5) (pa_cons (pv 14) pa_nil))))
    (pss_cons (ps_if (PW.pt (pw_or (pt_cmpR (op_neD (units_ok hr)) (pe_slice sl_tup (pv 16) po_none (po_some (pe_un un_neg pe_int))) (pe_slice sl_tup (pv 15) po_none (po_some (pe_un un_neg pe_int))) (nomark _)) (pw_or (pt_not (pt_val (C8.pe_c (c__law_same T 5) hr (by decide) (by rfl) (pa_cons (pe_ix (ix_k (K := K) rfl) (pv 16) (pe_un un_neg pe_int) (fun _ _ => rfl)) (pa_cons (pe_ix (ix_k (K := K) rfl) (pv 15) (pe_un un_neg pe_int) (fun _ _ => rfl)) pa_nil))))) (pw_or1 (pt_not (pt_val (C8.pe_c (c__law_is_as T) hr (by decide) (by rfl) (pa_cons (pv 5) (pa_cons (pv 6) pa_nil))))))))) (pss_one (ps_ret pe_bl)) pss_nil)
    (pss_one (ps_if (pt_cmpR op_ne (pe_callB call_len_seq (by rfl) T.z_len (by decide +kernel) (pa_cons (pv 13) pa_nil)) pe_int (nomark _)) (pss_one (ps_ret pe_bl)) pss_nil)))))))))))))
    (pss_one (ps_ret pe_bl)))))))))), ?_⟩
  obtain ⟨a, ns, rfl, hsq, hT, q⟩ := h
  refine ⟨_, rfl, a, ns, rfl, hsq, fun B0 src H1 e01 eB1 S1 => ?_⟩
  have S1' := S1.no
  have nB := noT_noT B0
  generalize noT B0 = Bs at S1' nB
  have T1 : TabsN (TN PL PA) H1 := hT.ext (e01.trans eB1)
  -- the widths
  refine ⟨_, rfl, _, rfl, Bs, src, 4, rfl, by decide, by decide, S1', fun r1 H2 c0 c1 s2 k2 t2 => ?_⟩
  have d2 := (Dr.refl S1').draw s2 k2 t2
  obtain ⟨n1, hn1⟩ : ∃ n : Nat, 1 + r1 = (n : Int) := ⟨(1 + r1).toNat, by omega⟩
  refine ⟨_, _, rfl, rfl, Bs, src, n1, by show [V.ref src, V.int (1 + r1), V.bl true] = _; rw [hn1], by omega, s2, fun wa wds H3 hwl hwx d3 hw3 => ?_⟩
  have dd3 := d2.trans d3
  have hvw : VWidths wds := ⟨by omega, by omega, hwx⟩
  -- the pipes
  refine ⟨_, rfl, _, rfl, wa, _, rfl, .inr hw3, _, rfl, Bs, src, 6, rfl, by decide, by decide, dd3.s, fun r2 H4 c2 c3 s4 k4 t4 => ?_⟩
  have dd4 := dd3.draw s4 k4 t4
  obtain ⟨n2, hn2⟩ : ∃ n : Nat, r2 = (n : Int) := ⟨r2.toNat, by omega⟩
  refine ⟨Bs, src, wds.length, n2, by rw [hn2, List.length_map] <;> rfl, by omega, by omega, by omega, s4, fun pav ps H5 hpl hpv d5 hp5 => ?_⟩
  have dd5 := dd4.trans d5
  have hvp : VPipes wds ps := ⟨by omega, hpv⟩
  obtain ⟨pa, pxs, epa, hpx, hpat⟩ := hp5
  subst epa
  have hp5 : At K H5 (.tup (ps.map dPipe)) (.ref pa) := ⟨pa, pxs, rfl, hpx, hpat⟩
  have hw5 : Is K H5 wa wds := d5.tk.sqT (t4.sqT hw3)
  -- the filling
  refine ⟨_, rfl, _, rfl, Bs, src, wa, wds, rfl, hw5, by omega, dd5.s, fun fa f0 H6 hf0 d6 hf6 => ?_⟩
  have dd6 := dd5.trans d6
  have hw6 : Is K H6 wa wds := d6.tk.sqT hw5
  have hp6 : At K H6 (.tup (ps.map dPipe)) (.ref pa) := hp5.tk d6.tk (pures_of pure_pipe _)
  -- the play
  refine ⟨_, rfl, _, rfl, fun wb dxw hwb hdxw nw => ⟨wb, dxw, wa, .ref pa, wds, ps, rfl, upd_same, (ext_ins hwb hdxw nw).sqT hw6, hvw, hp6.ext (ext_ins hwb hdxw nw), hvp, fun H7 k7 W7 => ⟨rfl, ?_⟩⟩⟩
  have e67 : Ext H6 H7 := fun b o e => k7 b o (ext_ins hwb hdxw nw b o e) (ne_of_none e hwb)
  have S7 := dd6.s.e e67
  obtain ⟨scA, nsA, iA, jA, kA, fA, hsA, _⟩ := S7.ex
  have WB : WebAt K (del (noT H7) src) wb wds ps := web_less W7.no (noT_at hsA (by intro ys; simp))
  have nBp : NoT (del (noT H7) src) := fun b o h => noT_noT H7 b o (del_some h)
  have eBp : Ext (del (noT H7) src) H7 := fun b o h => (noT_some (del_some h)).1
  have oBp : del (noT H7) src src = none := del_same
  generalize del (noT H7) src = Bp at WB nBp eBp oBp
  refine ⟨_, rfl, fun p dxp hp hdxp np => ⟨Bp, p, dxp, wb, fa, wds, ps, f0, rfl, upd_same, eBp.trans (ext_ins hp hdxp np), eBp.out hp, WB, hvw, hvp, (ext_ins hp hdxp np).sqT (e67.sqT hf6), hf0, fun l H8 k8 hl8 P8 => ⟨rfl, ?_⟩⟩⟩
  have e78 : Ext H7 H8 := fun b o e => k8 b o (ext_ins hp hdxp np b o e) (by simpa using ne_of_none e hp)
  have hl7 : H7 l = none := (ext_ins hp hdxp np).out hl8
  -- the model
  refine ⟨_, rfl, (by show 1 ≤ sizeLine; decide), fun l0 h0 => ⟨(by show 0 ≤ sizeLine; decide), fun l1 h1 => ⟨(by show 0 ≤ sizeLine; decide), fun l2 h2 => ⟨(by show 3 ≤ sizeLine; decide), fun m hm => ?_⟩⟩⟩⟩
  obtain ⟨dxq, bq, zsq, hpq, _, hlq, _⟩ := P8.ex
  have g0 : Ext H8 (upd H8 l0 (.lst [.ref fa])) := Ext.new h0
  have g1 := Ext.new (o := .lst []) h1
  have g2 := Ext.new (o := .lst []) h2
  have g3 := Ext.new (o := .lst [.ref l0, .ref l1, .ref l2]) hm
  have e89 : Ext H8 (upd (upd (upd (upd H8 l0 (.lst [.ref fa])) l1 (.lst [])) l2 (.lst [])) m (.lst [.ref l0, .ref l1, .ref l2])) := ((g0.trans g1).trans g2).trans g3
  have x0 := (((Ext.new (o := .lst []) h1).trans g2).trans g3) l0 _ (upd_same (o := .lst [.ref fa]))
  have x1 := (g2.trans g3) l1 _ (upd_same (o := .lst []))
  have x2 := g3 l2 _ (upd_same (o := .lst []))
  have n1 : H8 l1 = none := g0.out h1
  have n2 : H8 l2 = none := g0.out (g1.out h2)
  have n3 : H8 m = none := g0.out (g1.out (g2.out hm))
  have n10 : l1 ≠ l0 := fun z => by rw [z, upd_same] at h1; cases h1
  have n20 : l2 ≠ l0 := fun z => by
    have := g1.out h2
    rw [z, upd_same] at this
    cases this
  have n21 : l2 ≠ l1 := fun z => by rw [z, upd_same] at h2; cases h2
  have n30 : m ≠ l0 := fun z => by
    have := g1.out (g2.out hm)
    rw [z, upd_same] at this
    cases this
  have n31 : m ≠ l1 := fun z => by
    have := g2.out hm
    rw [z, upd_same] at this
    cases this
  have n32 : m ≠ l2 := fun z => by rw [z, upd_same] at hm; cases hm
  generalize hH9 : upd (upd (upd (upd H8 l0 (.lst [.ref fa])) l1 (.lst [])) l2 (.lst [])) m (.lst [.ref l0, .ref l1, .ref l2]) = H9 at e89 x0 x1 x2
  have x3 : H9 m = some (.lst [.ref l0, .ref l1, .ref l2]) := by rw [← hH9, upd_same]
  have S8 := S7.e e78
  obtain ⟨zs8, hs8⟩ := S8.lst
  obtain ⟨zs1, hs1⟩ := S1'.lst
  have L0 : LI K PL PA Bs Bp H9 src wa pa p wb m l l0 l1 l2 wds ps f0 [] := by
    have e69 := e67.trans (e78.trans e89)
    refine ⟨S8.e e89, (tabs_kp T1 dd6.kp (fun s hs => by rw [List.mem_singleton.mp hs]; exact mild_lst hs1)).ext e69, e69.sqT hw6, hp6.ext e69, P8.e e89, ⟨x3, ⟨_, x0, _, _, rfl, ints_at (e69.sqT hf6), rfl⟩, ⟨_, x1, rfl⟩, x2, n10.symm, n20.symm, n21.symm, n30, n31, n32⟩, fun e he => absurd he (by simp), ?_, ?_, ?_⟩
    · exact ⟨ne_of_none hlq n3, ne_of_none hlq h0, ne_of_none hlq n1, ne_of_none hlq n2, ne_of_none (e67 _ _ (dd6.s.lst.choose_spec)) hl7, ne_of_none hs8 n3, ne_of_none hs8 h0, ne_of_none hs8 n1, ne_of_none hs8 n2⟩
    · exact ⟨S7.ext.out hl7, S7.ext.out hp, S8.ext.out h0, S8.ext.out n1, S8.ext.out n2⟩
    · have eB8 := eBp.trans e78
      exact ⟨oBp, eB8.out h0, eB8.out n1, eB8.out n2⟩
  -- the turns
  refine ⟨_, rfl, Bs, src, 6, rfl, by decide, by decide, L0.srcP, fun r3 H10 b0 b1 s10 k10 t10 => ?_⟩
  have L1 : LI K PL PA Bs Bp H10 src wa pa p wb m l l0 l1 l2 wds ps f0 [] := L0.dr ⟨k10, t10, s10⟩
  refine ⟨_, _, rfl, rfl, _, rfl, by omega, by omega, ?_⟩
  refine for_it (walk_range (lo := 0) (n := (1 + r3).toNat)) (fun i σ H' => ∃ (l : Addr) (R : List En) (z7 z8 z9 z10 z11 z12 z13 z14 z15 z16 : Option V), LI K PL PA Bs Bp H' src wa pa p wb m l l0 l1 l2 wds ps f0 R ∧ R.length ≤ 5 * i ∧
    σ = [some (.ref a), some (.ref src), some (.ref wa), some (.ref pa), some (.ref fa), some (.ref p), some (.ref m), z7, z8, z9, z10, z11, z12, z13, z14, z15, z16]) ⟨l, [], none, none, none, none, none, none, none, none, none, none, L1, Nat.zero_le _, rfl⟩ (fun _ _ _ _ _ => trivial) (fun i x σ H2 H3 hi ⟨l, R, z7, z8, z9, z10, z11, z12, z13, z14, z15, z16, L, hRl, es⟩ hy => ?_) fun σ H2 ⟨l, R, z7, z8, z9, z10, z11, z12, z13, z14, z15, z16, L, hRl, es⟩ => ?_
  · obtain ⟨rfl, rfl⟩ := hy
    subst es
    have hi6 : i < 6 := by omega
    refine ⟨_, rfl, Bs, src, 6, rfl, by decide, by decide, L.srcP, fun r4 H4 b2 b3 s4 k4 t4 => ⟨_, rfl, by omega, by omega, ?_⟩⟩
    have L4 := L.dr ⟨k4, t4, s4⟩
    refine for_it (walk_range (lo := 0) (n := r4.toNat)) (fun j σ H' => ∃ (R' : List En) (z8 z9 : Option V), LI K PL PA Bs Bp H' src wa pa p wb m l l0 l1 l2 wds ps f0 R' ∧ R'.length ≤ R.length + j ∧
      σ = [some (.ref a), some (.ref src), some (.ref wa), some (.ref pa), some (.ref fa), some (.ref p), some (.ref m), some (.int (0 + (i : Int))), z8, z9, z10, z11, z12, z13, z14, z15, z16]) ⟨R, z8, z9, L4, Nat.le_refl _, rfl⟩ (fun _ _ _ _ _ => trivial) (fun j x σ H5 H6 hj ⟨R', z8, z9, L5, hRl5, es⟩ hy => ?_) fun σ H5 ⟨R', z8, z9, L5, hRl5, es⟩ => ?_
    · obtain ⟨rfl, rfl⟩ := hy
      subst es
      obtain ⟨pa', pxs, epa, hpx, hpat⟩ := L5.psP
      cases epa
      have hpl5 : pxs.length = ps.length := by rw [hpat.len, List.length_map]
      refine ⟨_, rfl, _, rfl, pa, pxs, rfl, .inr hpx, Bs, src, ps.length, by rw [hpl5] <;> rfl, hvp.1, L5.srcP, fun v op H7 hop d7 hat => ?_⟩
      have L7 := L5.dr d7
      obtain ⟨dx7, b7, xs7, hp7, hl7⟩ := L7.pl
      refine ⟨_, rfl, p, dx7, _, rfl, hp7, rfl, _, rfl, Bp, p, l, wb, v, wds, ps, f0, R', op, rfl, L7.playP, hat, hop, by omega, fun na H8 k8 t8 P8 hna => ?_⟩
      obtain ⟨n1, n2, n3, n4, n5, n6, n7, n8, n9⟩ := L7.neP
      obtain ⟨q1, q2, q3, q4, q5⟩ := L7.bsP
      obtain ⟨w1, w2, w3, w4⟩ := L7.bpP
      have M8 := L7.modelP.kp k8 t8 (by simpa using n1.symm) (by simpa using n2.symm) (by simpa using n3.symm) (by simpa using n4.symm)
      obtain ⟨ys0, y0, _⟩ := M8.h0
      obtain ⟨ys1, y1, _⟩ := M8.h1
      have y2 := M8.h2
      have hF7 := L7.fineP
      refine ⟨_, rfl, _, rfl, _, rfl, _, rfl, wa, pa, m, l0, l1, l2, v, wds, f0, ps, R', op, rfl, t8.sqT L7.wsP, hvw, L7.psP.tk t8 (pures_of pure_pipe _), hvp, M8, hat.tk t8 (pure_op op), hf0, fun e he => (hF7 e he).1, by omega, fun nb H9 k9 t9 M9 hnb => ?_⟩
      have dn : (numsN wds ps (nowR f0 R') op).length < 1000 := by
        rw [nums_len]
        omega
      refine ⟨_, _, dInts (numsN wds ps (nowR f0 R') op), rfl, deep_ints 3 dn, ints_at (t9.sqT hna), ints_at hnb, _, rfl, ?_⟩
      refine ⟨R' ++ [enN wds ps (nowR f0 R') op], _, _, ⟨?_, ?_, t9.sqT (t8.sqT L7.wsP), L7.psP.tk (t8.trans t9) (pures_of pure_pipe _), ?_, M9, fun e he => ?_, L7.neP, L7.bsP, L7.bpP⟩, by rw [List.length_append]; show _ + 1 ≤ _; omega, rfl⟩
      · refine (L7.srcP.kp k8 (fun s z => by rw [List.mem_singleton.mp z]; exact q1) (by simpa using n5)).kp k9 (fun s z => ?_) (by simp [n7, n8, n9])
        simp only [List.mem_cons, List.not_mem_nil, or_false] at z
        rcases z with rfl | rfl | rfl
        · exact q3
        · exact q4
        · exact q5
      · refine tabs_kp (tabs_kp L7.tabsP k8 fun s z => by rw [List.mem_singleton.mp z]; exact mild_lst hl7) k9 fun s z => ?_
        simp only [List.mem_cons, List.not_mem_nil, or_false] at z
        rcases z with rfl | rfl | rfl
        · exact mild_lst y0
        · exact mild_lst y1
        · exact mild_lst y2
      · refine P8.kp k9 (fun s z => ?_) ?_ (by simp [n2, n3, n4]) t9
        · simp only [List.mem_cons, List.not_mem_nil, or_false] at z
          rcases z with rfl | rfl | rfl
          · exact w2
          · exact w3
          · exact w4
        · obtain ⟨u0, v0, _⟩ := L7.modelP.h0
          obtain ⟨u1, v1, _⟩ := L7.modelP.h1
          simp [L7.pne v0, L7.pne v1, L7.pne L7.modelP.h2]
      · rcases List.mem_append.mp he with z | z
        · exact hF7 e z
        · rw [List.mem_singleton.mp z]
          exact fine_en hop
    · subst es
      have hR5 : R'.length ≤ 5 * (i + 1) := by omega
      -- the plan
      obtain ⟨pa', pxs, epa, hpx, hpat⟩ := L5.psP
      cases epa
      have hpl5 : pxs.length = ps.length := by rw [hpat.len, List.length_map]
      refine ⟨_, rfl, _, rfl, Bs, src, pa, pxs, rfl, hpx, by omega, L5.srcP, fun pv lo pl H6 d6 hlo hpl hvpl => ?_⟩
      rw [hpl5] at hvpl
      have L6 := L5.dr d6
      obtain ⟨dx5, b5, xs5, hp5', hl5'⟩ := L5.pl
      have nlo : lo ≠ l := (ne_of_none hl5' hlo).symm
      have nls : lo ≠ src := src_ne L5.srcP hlo
      -- what stands within
      refine ⟨_, rfl, Bs, src, 2, rfl, by decide, by decide, L6.srcP, fun r7 H7 a0 a1 s7 k7 t7 => ⟨rfl, _, rfl, ?_⟩⟩
      have L7 := L6.dr ⟨k7, t7, s7⟩
      have hpl7 := hpl.kp k7 t7 (by simpa using nls)
      refine ifTail2 (fun σ' H' => ∃ wv iv wi, LI K PL PA Bs Bp H' src wa pa p wb m l l0 l1 l2 wds ps f0 R' ∧ PlanAt K H' pv lo pl ∧ InnAt (fun _ _ _ _ => True) K Bs Bp H' ps.length src p l m l0 l1 l2 lo wv iv wi ∧
        σ' = [some (.ref a), some (.ref src), some (.ref wa), some (.ref pa), some (.ref fa), some (.ref p), some (.ref m), some (.int (0 + (i : Int))), z8, z9, some pv, some wv, some iv, z13, z14, z15, z16]) (fun σ' H8 ⟨wv, iv, wi, L8, hpl8, hin, es⟩ => ?_) (fun _ tail => ?_) fun _ => ⟨.non, .non, none, L7, hpl7, .inl ⟨rfl, rfl, rfl⟩, rfl⟩
      · subst es
        refine ⟨(by show 0 ≤ sizeLine; decide), fun lc hlc => ?_⟩
        have eN : Ext H8 (upd H8 lc (.lst [])) := Ext.new hlc
        have L9 := L8.e eN
        refine ⟨_, rfl, _, rfl, _, rfl, _, rfl, _, _, _, _, rfl, L9.tabsP, fun f9 F H10 xn t10 hf hfr hact => ?_⟩
        have L10 := L9.n nB nBp xn t10
        have hlc10 : H10 lc = some (.lst []) := lstN xn upd_same
        have hpl10 := (hpl8.e eN).n xn
        have hin10 := (hin.e eN).gx xn
        have hR30 : R'.length ≤ 30 := by omega
        refine ⟨_, rfl, _, rfl, _, rfl, _, rfl, _, rfl, wi, wa, pa, m, l0, l1, l2, lo, pv, wv, wds, f0, ps, R', pl, rfl, L10.wsP, hvw, L10.psP, hvp, L10.modelP, hpl10, hvpl, hin10.within, hf0, L10.fineP, ?_, fun dv H11 e11 hdv => ?_⟩
        · cases wi with
          | none => show _ < 600; omega
          | some _ => show _ < 500; omega
        have L11 := L10.e e11
        have hdp : DeepO 5 (dueN wds ps f0 R' pl wi) := due_deep hvw.2.1 hf0 L11.fineP hvpl fun pl2 h2 => hin10.v2 h2
        refine ⟨tabs_of L11.tabsP, fun H12 xn12 t12 => ?_⟩
        have L12 := L11.n nB nBp xn12 (tabs_to t12)
        obtain ⟨_, _, _, _, hlo8, _⟩ := id hpl8
        obtain ⟨dx8, b8, xs8, hp8, hl8⟩ := L8.pl
        obtain ⟨zsrc, hsrc8⟩ := L8.srcP.lst
        obtain ⟨u0, hu0, _⟩ := L8.modelP.h0
        obtain ⟨u1, hu1, _⟩ := L8.modelP.h1
        have fr : ∀ {b : Addr} {o : HO}, H8 b = some o → lc ≠ b := fun e => (ne_of_none e hlc).symm
        refine try_told U (lc := lc) (lo := lo) (F := F) (pv := pv) (iv := iv) (wv := wv) (dv := dv) L12 (by omega) ((hpl10.e e11).n xn12) hvpl nlo (fr hlo8).symm (lstN xn12 (e11 _ _ hlc10)) (L8.playP.ext.out hlc) (L8.srcP.ext.out hlc) (fr hl8) (by simp [fr hsrc8, fr L8.modelP.hm, fr hu0, fr hu1, fr L8.modelP.h2])
          ((hact.kp (S := []) e11.kp (by simp)).n xn12) (fun c hc => L9.playP.ext.out (hfr c hc)) (((((hin.more fun fi Fi lci lo2 b1 b2 b3 b4 b5 => ?_).e eN).gx xn).e e11).gx xn12) (hdv.n xn12) hdp rfl rfl fun fv H13 k L13 hfv hdv13 hlc13 => ?_
        · exact ⟨fun z => b1 (eN.out (hfr _ z)), fun z => b2 (eN.out (hfr _ z)), fun c hc z => b3 c hc (eN.out (hfr _ z)), fun z => b4 (by rw [z]; exact hlc), fun z => b5 (by rw [z]; exact hlc)⟩
        · generalize dueN wds ps f0 R' pl wi = o at hfv hdv13 hdp
          obtain ⟨fa1, u1', rfl, hq1, hu1'⟩ := at_out hfv
          obtain ⟨da1, v1', rfl, hq2, hv1'⟩ := at_out hdv13
          refine ⟨_, rfl, _, rfl, _, rfl, fa1, _, rfl, hq1, pre_cut o u1', fun t1 h1 => ⟨_, rfl, _, rfl, _, rfl, da1, _, rfl, (Ext.new h1).sqT hq2, pre_cut o v1', fun t2 h2 => ?_⟩⟩
          have et1 : Ext H13 (upd H13 t1 (.tup (cutV (preO o ++ [u1']) none (some (-1))))) := Ext.new h1
          have et2 := et1.trans (Ext.new (o := .tup (cutV (preO o ++ [v1']) none (some (-1)))) h2)
          have y1 := (Ext.new (o := .tup (cutV (preO o ++ [v1']) none (some (-1)))) h2) t1 _ (upd_same (o := .tup (cutV (preO o ++ [u1']) none (some (-1)))))
          have y2 := upd_same (H := upd H13 t1 (.tup (cutV (preO o ++ [u1']) none (some (-1))))) (a := t2) (o := .tup (cutV (preO o ++ [v1']) none (some (-1))))
          generalize hG : upd (upd H13 t1 (.tup (cutV (preO o ++ [u1']) none (some (-1))))) t2 (.tup (cutV (preO o ++ [v1']) none (some (-1)))) = G at et2 y1 y2
          rw [cut_pre] at y1 y2
          have LG := L13.e et2
          refine ⟨datO o, datO o, dat_ok (tupOf y1), dat_ok (tupOf y2), dat_shaped o, dat_shaped o, _, rfl, ?_⟩
          rw [dat_eq]
          have dL : Deep 5 (lastO o) := by
            cases o <;> exact hdp
          refine ⟨_, rfl, _, rfl, fa1, _, _, _, rfl, rfl, .inr (et2.sqT hq1), last_at o u1', _, rfl, _, rfl, da1, _, _, _, rfl, rfl, .inr (et2.sqT hq2), last_at o v1', _, _, lastO o, rfl, dL, hu1'.ext et2, hv1'.ext et2, _, rfl, ?_⟩
          refine ⟨_, rfl, _, rfl, Bp, p, k, wb, m, l0, l1, l2, wds, ps, f0, R', rfl, LG.playP, LG.modelP, by omega, LG.fineP, fun H14 e14 => ⟨_, rfl, ?_⟩⟩
          refine ⟨_, rfl, lc, _, rfl, .inl (lstOf (e14 _ _ (et2 _ _ hlc13))), rfl, _, rfl, ?_⟩
          exact ⟨k, R', _, _, _, _, _, _, _, _, _, _, LG.e e14, hR5, rfl⟩
      · have hpx7 : SqT K H7 pa pxs := t7.sqT (d6.tk.sqT hpx)
        refine ⟨_, rfl, _, rfl, Bs, src, pa, pxs, rfl, hpx7, by omega, s7, fun wv lo2 pl2 H8 d8 hlo2 hpl2 hv2 => ?_⟩
        rw [hpl5] at hv2
        have L8 := L7.dr d8
        obtain ⟨dx7, b7, xs7, hp7, hl7⟩ := L7.pl
        obtain ⟨dx8, b8, xs8, hp8, hl8⟩ := L8.pl
        refine ⟨_, rfl, _, rfl, (by show 0 ≤ sizeLine; decide), fun lci hlci => ⟨_, _, _, _, rfl, (L8.e (Ext.new hlci)).tabsP, fun fi Fi H10 xn t10 hfi hfr hact => ?_⟩⟩
        have L9 := L8.e (Ext.new (o := .lst []) hlci)
        have hpl8 := hpl7.kp d8.kp d8.tk (by simpa using nls)
        obtain ⟨_, _, _, _, hlo8, _⟩ := id hpl8
        obtain ⟨_, _, _, _, hlo28, _⟩ := id hpl2
        obtain ⟨zsrc, hsrc8⟩ := L8.srcP.lst
        obtain ⟨u0, hu0, _⟩ := L8.modelP.h0
        obtain ⟨u1, hu1, _⟩ := L8.modelP.h1
        have fr : ∀ {b : Addr} {o : HO}, H8 b = some o → lci ≠ b := fun e => (ne_of_none e hlci).symm
        refine tail _ _ ⟨wv, .ref fi, some pl2, L9.n nB nBp xn t10, (hpl8.e (Ext.new hlci)).n xn, .inr ⟨pl2, lo2, fi, Fi, lci, rfl, (hpl2.e (Ext.new hlci)).n xn, hv2, rfl, hact, fun c hc => L9.playP.ext.out (hfr c hc), lstN xn upd_same, L8.playP.ext.out hlci, L8.srcP.ext.out hlci, fr hlo8, fr hl8, (ne_of_none hl7 hlo2).symm, (fr hlo28).symm, ?_⟩, rfl⟩
        exact ⟨by simp [fr hsrc8, fr L8.modelP.hm, fr hu0, fr hu1, fr L8.modelP.h2], trivial⟩
  · subst es
    exact q _
end
end K14
end
section
/-! What the head tells. -/
namespace K14
open PySem PySem.Spec PyProof.Rows L2 RZ K14H NdefX LamX
section
variable {K : PySem.W.Frag} {mg : Str → Option Value} {f : Addr} {fd : FuncData}
theorem fun_of {x qual : Str} {st : Stmt} {kws : List (Str × V)} (F : FunD K x qual (C8.fnArgs st) (C8.fnBody st) (C8.fnScope st) [] kws f fd) : C8.Fun K x qual st f fd := by
  obtain ⟨oc, od, dV, kV, doc, pm, an, cdv, ct, osl, h1, h2, h3, _, _⟩ := F.ex
  exact ⟨oc, od, dV, kV, doc, pm, an, cdv, ct, osl, h1, h2, h3⟩
theorem def_at {x : Str} {st : Stmt} {ps : List Str} (F : FunD K x x (C8.fnArgs st) (C8.fnBody st) (C8.fnScope st) [] [] f fd) (hm : mg x = some (.ref f))
    (hb : ∀ (kV doc pm : Value) (an : Option Addr) (cdv ct : Value) (us : List Value), us.length = ps.length → bindArgs (PySem.W.fnOf x x (C8.fnArgs st) (C8.fnBody st) (C8.fnScope st) .none kV doc pm an cdv ct) ⟨us, []⟩ = pure (ps.zip us)) : DefAt K mg x st ps :=
  ⟨f, fd, ⟨fun_of F, hm, F.kp⟩, F.bindsN hb⟩
theorem met_at {C : Addr} {m qual : Str} {st : Stmt} {ps : List Str} (F : FunD K m qual (C8.fnArgs st) (C8.fnBody st) (C8.fnScope st) [] [] f fd) (hm : Meth K C m f)
    (hb : ∀ (kV doc pm : Value) (an : Option Addr) (cdv ct : Value) (us : List Value), us.length = ps.length → bindArgs (PySem.W.fnOf m qual (C8.fnArgs st) (C8.fnBody st) (C8.fnScope st) .none kV doc pm an cdv ct) ⟨us, []⟩ = pure (ps.zip us)) : MetAt K C m qual st ps :=
  ⟨f, fd, hm, fun_of F, F.bindsN hb⟩
/-- .. with its code object -/
theorem defc_at {x : Str} {st : Stmt} {ps : List Str} (F : FunD K x x (C8.fnArgs st) (C8.fnBody st) (C8.fnScope st) [] [] (He.fAd K (x, none)) fd) (hm : mg x = some (.ref (He.fAd K (x, none))))
    (hb : ∀ (kV doc pm : Value) (an : Option Addr) (cdv ct : Value) (us : List Value), us.length = ps.length → bindArgs (PySem.W.fnOf x x (C8.fnArgs st) (C8.fnBody st) (C8.fnScope st) .none kV doc pm an cdv ct) ⟨us, []⟩ = pure (ps.zip us)) : fd.code = .ref (He.cT K (x, none)).1 ∧ DefC K mg x st ps (He.cT K (x, none)).1 := by
  have e : fd.code = .ref (He.cT K (x, none)).1 := by
    obtain ⟨oc, od, dV, kV, doc, pm, an, cdv, ct, osl, h1, h2, h3, _, _⟩ := F.ex
    obtain ⟨c, hc⟩ := He.codeIn_ref h3
    have e1 : fd.code = .ref c := by
      rw [h1, hc]
    rw [e1]
    exact congrArg Value.ref (He.codeOf_eq h2 e1).symm
  exact ⟨e, _, fd, ⟨fun_of F, hm, F.kp⟩, F.bindsN hb, e⟩
end
theorem txt_of {K : PySem.W.Frag} {h : Heap} {mg : Str → Option Value} (X : K.In h) (G : h.Ns mainGlobals mg) (c : He.SaysD fa fn K) : Txt K mg where
  d_is_integer := by
    obtain ⟨fd, F⟩ := c.def_ 0 rfl
    exact def_at F (He.glo_ok X G (c.fact 0 (f := .glo "is_integer") rfl)) (fun _ _ _ _ _ _ us hl => match us, hl with | [_], _ => rfl)
  d_is_between := by
    obtain ⟨fd, F⟩ := c.def_ 1 rfl
    exact def_at F (He.glo_ok X G (c.fact 1 (f := .glo "is_between") rfl)) (fun _ _ _ _ _ _ us hl => match us, hl with | [_, _, _], _ => rfl)
  d_is_pair := by
    obtain ⟨fd, F⟩ := c.def_ 2 rfl
    exact def_at F (He.glo_ok X G (c.fact 2 (f := .glo "is_pair") rfl)) (fun _ _ _ _ _ _ us hl => match us, hl with | [_], _ => rfl)
  d_is_triple := by
    obtain ⟨fd, F⟩ := c.def_ 3 rfl
    exact def_at F (He.glo_ok X G (c.fact 3 (f := .glo "is_triple") rfl)) (fun _ _ _ _ _ _ us hl => match us, hl with | [_], _ => rfl)
  d_is_row := by
    obtain ⟨fd, F⟩ := c.def_ 4 rfl
    exact def_at F (He.glo_ok X G (c.fact 4 (f := .glo "is_row") rfl)) (fun _ _ _ _ _ _ us hl => match us, hl with | [_, _], _ => rfl)
  d_is_lot := by
    obtain ⟨fd, F⟩ := c.def_ 5 rfl
    exact def_at F (He.glo_ok X G (c.fact 5 (f := .glo "is_lot") rfl)) (fun _ _ _ _ _ _ us hl => match us, hl with | [_, _], _ => rfl)
  d_check_number := by
    obtain ⟨fd, F⟩ := c.def_ 6 rfl
    exact def_at F (He.glo_ok X G (c.fact 6 (f := .glo "check_number") rfl)) (fun _ _ _ _ _ _ us hl => match us, hl with | [_, _, _], _ => rfl)
  d_divisor := by
    obtain ⟨fd, F⟩ := c.def_ 7 rfl
    exact def_at F (He.glo_ok X G (c.fact 7 (f := .glo "divisor") rfl)) (fun _ _ _ _ _ _ us hl => match us, hl with | [_, _], _ => rfl)
  d_multiple := by
    obtain ⟨fd, F⟩ := c.def_ 8 rfl
    exact def_at F (He.glo_ok X G (c.fact 8 (f := .glo "multiple") rfl)) (fun _ _ _ _ _ _ us hl => match us, hl with | [_, _], _ => rfl)
  d_made := by
    obtain ⟨fd, F⟩ := c.def_ 9 rfl
    exact def_at F (He.glo_ok X G (c.fact 9 (f := .glo "made") rfl)) (fun _ _ _ _ _ _ us hl => match us, hl with | [_, _], _ => rfl)
  d_is_fraction := by
    obtain ⟨fd, F⟩ := c.def_ 10 rfl
    exact def_at F (He.glo_ok X G (c.fact 10 (f := .glo "is_fraction") rfl)) (fun _ _ _ _ _ _ us hl => match us, hl with | [_], _ => rfl)
  d_is_below := by
    obtain ⟨fd, F⟩ := c.def_ 11 rfl
    exact def_at F (He.glo_ok X G (c.fact 11 (f := .glo "is_below") rfl)) (fun _ _ _ _ _ _ us hl => match us, hl with | [_, _], _ => rfl)
  d_next_whole := by
    obtain ⟨fd, F⟩ := c.def_ 12 rfl
    exact def_at F (He.glo_ok X G (c.fact 12 (f := .glo "next_whole") rfl)) (fun _ _ _ _ _ _ us hl => match us, hl with | [_], _ => rfl)
  d_is_threshold := by
    obtain ⟨fd, F⟩ := c.def_ 13 rfl
    exact def_at F (He.glo_ok X G (c.fact 13 (f := .glo "is_threshold") rfl)) (fun _ _ _ _ _ _ us hl => match us, hl with | [_], _ => rfl)
  d_is_list := by
    obtain ⟨fd, F⟩ := c.def_ 14 rfl
    exact def_at F (He.glo_ok X G (c.fact 14 (f := .glo "is_list") rfl)) (fun _ _ _ _ _ _ us hl => match us, hl with | [_], _ => rfl)
  d_is_width := by
    obtain ⟨fd, F⟩ := c.def_ 15 rfl
    exact def_at F (He.glo_ok X G (c.fact 15 (f := .glo "is_width") rfl)) (fun _ _ _ _ _ _ us hl => match us, hl with | [_], _ => rfl)
  d_parts_of_grain := by
    obtain ⟨fd, F⟩ := c.def_ 16 rfl
    exact def_at F (He.glo_ok X G (c.fact 16 (f := .glo "parts_of_grain") rfl)) (fun _ _ _ _ _ _ us hl => match us, hl with | [_, _], _ => rfl)
  d_in_grains := by
    obtain ⟨fd, F⟩ := c.def_ 17 rfl
    exact def_at F (He.glo_ok X G (c.fact 17 (f := .glo "in_grains") rfl)) (fun _ _ _ _ _ _ us hl => match us, hl with | [_, _], _ => rfl)
  d_is_filling := by
    obtain ⟨fd, F⟩ := c.def_ 18 rfl
    exact def_at F (He.glo_ok X G (c.fact 18 (f := .glo "is_filling") rfl)) (fun _ _ _ _ _ _ us hl => match us, hl with | [_, _], _ => rfl)
  d_check_filling := by
    obtain ⟨fd, F⟩ := c.def_ 19 rfl
    exact def_at F (He.glo_ok X G (c.fact 19 (f := .glo "check_filling") rfl)) (fun _ _ _ _ _ _ us hl => match us, hl with | [_, _], _ => rfl)
  d_check_opening := by
    obtain ⟨fd, F⟩ := c.def_ 20 rfl
    exact def_at F (He.glo_ok X G (c.fact 20 (f := .glo "check_opening") rfl)) (fun _ _ _ _ _ _ us hl => match us, hl with | [_, _], _ => rfl)
  d_drops_in_grains := by
    obtain ⟨fd, F⟩ := c.def_ 21 rfl
    exact def_at F (He.glo_ok X G (c.fact 21 (f := .glo "drops_in_grains") rfl)) (fun _ _ _ _ _ _ us hl => match us, hl with | [_, _], _ => rfl)
  d_runs_at := by
    obtain ⟨fd, F⟩ := c.def_ 22 rfl
    exact def_at F (He.glo_ok X G (c.fact 22 (f := .glo "runs_at") rfl)) (fun _ _ _ _ _ _ us hl => match us, hl with | [_, _], _ => rfl)
  d_flows_of := by
    obtain ⟨fd, F⟩ := c.def_ 23 rfl
    exact def_at F (He.glo_ok X G (c.fact 23 (f := .glo "flows_of") rfl)) (fun _ _ _ _ _ _ us hl => match us, hl with | [_, _], _ => rfl)
  d_opened := by
    obtain ⟨fd, F⟩ := c.def_ 24 rfl
    exact def_at F (He.glo_ok X G (c.fact 24 (f := .glo "opened") rfl)) (fun _ _ _ _ _ _ us hl => match us, hl with | [_, _], _ => rfl)
  d_nets_of := by
    obtain ⟨fd, F⟩ := c.def_ 25 rfl
    exact def_at F (He.glo_ok X G (c.fact 25 (f := .glo "nets_of") rfl)) (fun _ _ _ _ _ _ us hl => match us, hl with | [_, _], _ => rfl)
  d_moved := by
    obtain ⟨fd, F⟩ := c.def_ 26 rfl
    exact def_at F (He.glo_ok X G (c.fact 26 (f := .glo "moved") rfl)) (fun _ _ _ _ _ _ us hl => match us, hl with | [_, _, _], _ => rfl)
  d_running := by
    obtain ⟨fd, F⟩ := c.def_ 27 rfl
    exact def_at F (He.glo_ok X G (c.fact 27 (f := .glo "running") rfl)) (fun _ _ _ _ _ _ us hl => match us, hl with | [_, _, _], _ => rfl)
  d_are_widths := by
    obtain ⟨fd, F⟩ := c.def_ 28 rfl
    exact def_at F (He.glo_ok X G (c.fact 28 (f := .glo "are_widths") rfl)) (fun _ _ _ _ _ _ us hl => match us, hl with | [_], _ => rfl)
  d_is_pipe := by
    obtain ⟨fd, F⟩ := c.def_ 29 rfl
    exact def_at F (He.glo_ok X G (c.fact 29 (f := .glo "is_pipe") rfl)) (fun _ _ _ _ _ _ us hl => match us, hl with | [_, _], _ => rfl)
  d_gauge := by
    obtain ⟨fd, F⟩ := c.def_ 30 rfl
    exact def_at F (He.glo_ok X G (c.fact 30 (f := .glo "gauge") rfl)) (fun _ _ _ _ _ _ us hl => match us, hl with | [_, _], _ => rfl)
  d__law_source := by
    obtain ⟨fd, F⟩ := c.def_ 31 rfl
    exact def_at F (He.glo_ok X G (c.fact 31 (f := .glo "_law_source") rfl)) (fun _ _ _ _ _ _ us hl => match us, hl with | [_], _ => rfl)
  d__law_mixed := by
    obtain ⟨fd, F⟩ := c.def_ 32 rfl
    exact def_at F (He.glo_ok X G (c.fact 32 (f := .glo "_law_mixed") rfl)) (fun _ _ _ _ _ _ us hl => match us, hl with | [_, _], _ => rfl)
  d__law_draw := by
    obtain ⟨fd, F⟩ := c.def_ 33 rfl
    exact def_at F (He.glo_ok X G (c.fact 33 (f := .glo "_law_draw") rfl)) (fun _ _ _ _ _ _ us hl => match us, hl with | [_, _], _ => rfl)
  d__law_pick := by
    obtain ⟨fd, F⟩ := c.def_ 34 rfl
    exact def_at F (He.glo_ok X G (c.fact 34 (f := .glo "_law_pick") rfl)) (fun _ _ _ _ _ _ us hl => match us, hl with | [_, _], _ => rfl)
  d__law_divisor := by
    obtain ⟨fd, F⟩ := c.def_ 35 rfl
    exact def_at F (He.glo_ok X G (c.fact 35 (f := .glo "_law_divisor") rfl)) (fun _ _ _ _ _ _ us hl => match us, hl with | [_, _], _ => rfl)
  d__law_made := by
    obtain ⟨fd, F⟩ := c.def_ 36 rfl
    exact def_at F (He.glo_ok X G (c.fact 36 (f := .glo "_law_made") rfl)) (fun _ _ _ _ _ _ us hl => match us, hl with | [_, _], _ => rfl)
  d__law_added := by
    obtain ⟨fd, F⟩ := c.def_ 37 rfl
    exact def_at F (He.glo_ok X G (c.fact 37 (f := .glo "_law_added") rfl)) (fun _ _ _ _ _ _ us hl => match us, hl with | [_, _], _ => rfl)
  d__law_same := by
    obtain ⟨fd, F⟩ := c.def_ 38 rfl
    exact def_at F (He.glo_ok X G (c.fact 38 (f := .glo "_law_same") rfl)) (fun _ _ _ _ _ _ us hl => match us, hl with | [_, _], _ => rfl)
  d__law_in_order := by
    obtain ⟨fd, F⟩ := c.def_ 39 rfl
    exact def_at F (He.glo_ok X G (c.fact 39 (f := .glo "_law_in_order") rfl)) (fun _ _ _ _ _ _ us hl => match us, hl with | [_], _ => rfl)
  d__law_steps := by
    obtain ⟨fd, F⟩ := c.def_ 40 rfl
    exact def_at F (He.glo_ok X G (c.fact 40 (f := .glo "_law_steps") rfl)) (fun _ _ _ _ _ _ us hl => match us, hl with | [_, _, _], _ => rfl)
  d__law_flow := by
    obtain ⟨fd, F⟩ := c.def_ 41 rfl
    exact def_at F (He.glo_ok X G (c.fact 41 (f := .glo "_law_flow") rfl)) (fun _ _ _ _ _ _ us hl => match us, hl with | [_, _], _ => rfl)
  d__law_widths := by
    obtain ⟨fd, F⟩ := c.def_ 42 rfl
    exact def_at F (He.glo_ok X G (c.fact 42 (f := .glo "_law_widths") rfl)) (fun _ _ _ _ _ _ us hl => match us, hl with | [_, _, _], _ => rfl)
  d__law_pipe := by
    obtain ⟨fd, F⟩ := c.def_ 43 rfl
    exact def_at F (He.glo_ok X G (c.fact 43 (f := .glo "_law_pipe") rfl)) (fun _ _ _ _ _ _ us hl => match us, hl with | [_, _, _, _], _ => rfl)
  d__law_pipes := by
    obtain ⟨fd, F⟩ := c.def_ 44 rfl
    exact def_at F (He.glo_ok X G (c.fact 44 (f := .glo "_law_pipes") rfl)) (fun _ _ _ _ _ _ us hl => match us, hl with | [_, _, _, _, _], _ => rfl)
  d__law_water := by
    obtain ⟨fd, F⟩ := c.def_ 45 rfl
    exact def_at F (He.glo_ok X G (c.fact 45 (f := .glo "_law_water") rfl)) (fun _ _ _ _ _ _ us hl => match us, hl with | [_, _], _ => rfl)
  d__law_filling := by
    obtain ⟨fd, F⟩ := c.def_ 46 rfl
    exact def_at F (He.glo_ok X G (c.fact 46 (f := .glo "_law_filling") rfl)) (fun _ _ _ _ _ _ us hl => match us, hl with | [_, _, _, _], _ => rfl)
  d__law_opening := by
    obtain ⟨fd, F⟩ := c.def_ 47 rfl
    exact def_at F (He.glo_ok X G (c.fact 47 (f := .glo "_law_opening") rfl)) (fun _ _ _ _ _ _ us hl => match us, hl with | [_, _], _ => rfl)
  d__law_level := by
    obtain ⟨fd, F⟩ := c.def_ 48 rfl
    exact def_at F (He.glo_ok X G (c.fact 48 (f := .glo "_law_level") rfl)) (fun _ _ _ _ _ _ us hl => match us, hl with | [_, _], _ => rfl)
  d__law_drop := by
    obtain ⟨fd, F⟩ := c.def_ 49 rfl
    exact def_at F (He.glo_ok X G (c.fact 49 (f := .glo "_law_drop") rfl)) (fun _ _ _ _ _ _ us hl => match us, hl with | [_, _, _], _ => rfl)
  d__law_flows := by
    obtain ⟨fd, F⟩ := c.def_ 50 rfl
    exact def_at F (He.glo_ok X G (c.fact 50 (f := .glo "_law_flows") rfl)) (fun _ _ _ _ _ _ us hl => match us, hl with | [_, _, _, _], _ => rfl)
  d__law_nets := by
    obtain ⟨fd, F⟩ := c.def_ 51 rfl
    exact def_at F (He.glo_ok X G (c.fact 51 (f := .glo "_law_nets") rfl)) (fun _ _ _ _ _ _ us hl => match us, hl with | [_, _, _], _ => rfl)
  d__law_behind := by
    obtain ⟨fd, F⟩ := c.def_ 52 rfl
    exact def_at F (He.glo_ok X G (c.fact 52 (f := .glo "_law_behind") rfl)) (fun _ _ _ _ _ _ us hl => match us, hl with | [_, _, _], _ => rfl)
  d__law_amount := by
    obtain ⟨fd, F⟩ := c.def_ 53 rfl
    exact def_at F (He.glo_ok X G (c.fact 53 (f := .glo "_law_amount") rfl)) (fun _ _ _ _ _ _ us hl => match us, hl with | [_], _ => rfl)
  d__law_twin := by
    obtain ⟨fd, F⟩ := c.def_ 54 rfl
    exact def_at F (He.glo_ok X G (c.fact 54 (f := .glo "_law_twin") rfl)) (fun _ _ _ _ _ _ us hl => match us, hl with | [_], _ => rfl)
  d__law_model_tick := by
    obtain ⟨fd, F⟩ := c.def_ 55 rfl
    exact def_at F (He.glo_ok X G (c.fact 55 (f := .glo "_law_model_tick") rfl)) (fun _ _ _ _ _ _ us hl => match us, hl with | [_, _, _, _], _ => rfl)
  d__law_model_back := by
    obtain ⟨fd, F⟩ := c.def_ 56 rfl
    exact def_at F (He.glo_ok X G (c.fact 56 (f := .glo "_law_model_back") rfl)) (fun _ _ _ _ _ _ us hl => match us, hl with | [_, _], _ => rfl)
  d__law_is_as := by
    obtain ⟨fd, F⟩ := c.def_ 57 rfl
    exact def_at F (He.glo_ok X G (c.fact 57 (f := .glo "_law_is_as") rfl)) (fun _ _ _ _ _ _ us hl => match us, hl with | [_, _], _ => rfl)
  d__law_raised := by
    obtain ⟨fd, F⟩ := c.def_ 58 rfl
    exact def_at F (He.glo_ok X G (c.fact 58 (f := .glo "_law_raised") rfl)) (fun _ _ _ _ _ _ us hl => match us, hl with | [_, _], _ => rfl)
  d__law_first_told := by
    obtain ⟨fd, F⟩ := c.def_ 59 rfl
    exact def_at F (He.glo_ok X G (c.fact 59 (f := .glo "_law_first_told") rfl)) (fun _ _ _ _ _ _ us hl => match us, hl with | [_], _ => rfl)
  d__law_fields := by
    obtain ⟨fd, F⟩ := c.def_ 60 rfl
    exact def_at F (He.glo_ok X G (c.fact 60 (f := .glo "_law_fields") rfl)) (fun _ _ _ _ _ _ us hl => match us, hl with | [_, _], _ => rfl)
  d__law_action := by
    obtain ⟨fd, F⟩ := c.def_ 61 rfl
    exact def_at F (He.glo_ok X G (c.fact 61 (f := .glo "_law_action") rfl)) (fun _ _ _ _ _ _ us hl => match us, hl with | [_, _, _, _], _ => rfl)
  d__law_plan := by
    obtain ⟨fd, F⟩ := c.def_ 62 rfl
    exact def_at F (He.glo_ok X G (c.fact 62 (f := .glo "_law_plan") rfl)) (fun _ _ _ _ _ _ us hl => match us, hl with | [_, _], _ => rfl)
  d__law_plan_due := by
    obtain ⟨fd, F⟩ := c.def_ 63 rfl
    exact def_at F (He.glo_ok X G (c.fact 63 (f := .glo "_law_plan_due") rfl)) (fun _ _ _ _ _ _ us hl => match us, hl with | [_, _, _, _, _], _ => rfl)
  z_isinstance := He.free_ok X G (c.fact 82 (f := .free "isinstance") rfl)
  z_int := He.free_ok X G (c.fact 83 (f := .free "int") rfl)
  z_bool := He.free_ok X G (c.fact 84 (f := .free "bool") rfl)
  z_tuple := He.free_ok X G (c.fact 85 (f := .free "tuple") rfl)
  z_list := He.free_ok X G (c.fact 86 (f := .free "list") rfl)
  z_str := He.free_ok X G (c.fact 87 (f := .free "str") rfl)
  z_len := He.free_ok X G (c.fact 88 (f := .free "len") rfl)
  z_all := He.free_ok X G (c.fact 89 (f := .free "all") rfl)
  z_any := He.free_ok X G (c.fact 90 (f := .free "any") rfl)
  z_abs := He.free_ok X G (c.fact 91 (f := .free "abs") rfl)
  z_sum := He.free_ok X G (c.fact 92 (f := .free "sum") rfl)
  z_max := He.free_ok X G (c.fact 93 (f := .free "max") rfl)
  z_zip := He.free_ok X G (c.fact 94 (f := .free "zip") rfl)
  z_range := He.free_ok X G (c.fact 95 (f := .free "range") rfl)
  z_enumerate := He.free_ok X G (c.fact 96 (f := .free "enumerate") rfl)
  z_sorted := He.free_ok X G (c.fact 97 (f := .free "sorted") rfl)
  z_super := He.free_ok X G (c.fact 98 (f := .free "super") rfl)
  z_ValueError := He.free_ok X G (c.fact 99 (f := .free "ValueError") rfl)
  m_MOST_THRESHOLDS := by
    obtain ⟨t, h⟩ := He.int_ok X G (c.fact 100 (f := .int "MOST_THRESHOLDS" 6) rfl)
    exact ⟨_, h, t, rfl⟩
  m_MOST_TOP := by
    obtain ⟨t, h⟩ := He.int_ok X G (c.fact 101 (f := .int "MOST_TOP" 1000000) rfl)
    exact ⟨_, h, t, rfl⟩
  m_MOST_BOTTOM := by
    obtain ⟨t, h⟩ := He.int_ok X G (c.fact 102 (f := .int "MOST_BOTTOM" 144) rfl)
    exact ⟨_, h, t, rfl⟩
  m_MOST_WIDTH := by
    obtain ⟨t, h⟩ := He.int_ok X G (c.fact 103 (f := .int "MOST_WIDTH" 12) rfl)
    exact ⟨_, h, t, rfl⟩
  m_MOST_VESSELS := by
    obtain ⟨t, h⟩ := He.int_ok X G (c.fact 104 (f := .int "MOST_VESSELS" 12) rfl)
    exact ⟨_, h, t, rfl⟩
  m_MOST_PIPES := by
    obtain ⟨t, h⟩ := He.int_ok X G (c.fact 105 (f := .int "MOST_PIPES" 36) rfl)
    exact ⟨_, h, t, rfl⟩
  c_Play := He.cls_ok (c.fact 106 (f := .cls "Play") rfl)
  g_Play := He.glo_ok X G (c.fact 65 (f := .glo "Play") rfl)
  k_Play := He.mkr_ok (c.fact 107 (f := .mkr "Play") rfl)
  e_Play_init := by
    obtain ⟨fd, F⟩ := c.def_ 65 rfl
    exact met_at F (He.meth_ok (c.fact 110 (f := .meth "Play" "__init__") rfl)) (fun _ _ _ _ _ _ us hl => match us, hl with | [_, _, _], _ => rfl)
  e_Play_now := by
    obtain ⟨fd, F⟩ := c.def_ 66 rfl
    exact met_at F (He.meth_ok (c.fact 111 (f := .meth "Play" "now") rfl)) (fun _ _ _ _ _ _ us hl => match us, hl with | [_], _ => rfl)
  e_Play_tick := by
    obtain ⟨fd, F⟩ := c.def_ 67 rfl
    exact met_at F (He.meth_ok (c.fact 112 (f := .meth "Play" "tick") rfl)) (fun _ _ _ _ _ _ us hl => match us, hl with | [_, _], _ => rfl)
  e_Play_log := by
    obtain ⟨fd, F⟩ := c.def_ 68 rfl
    exact met_at F (He.meth_ok (c.fact 113 (f := .meth "Play" "log") rfl)) (fun _ _ _ _ _ _ us hl => match us, hl with | [_], _ => rfl)
  e_Play_ran := by
    obtain ⟨fd, F⟩ := c.def_ 69 rfl
    exact met_at F (He.meth_ok (c.fact 114 (f := .meth "Play" "ran") rfl)) (fun _ _ _ _ _ _ us hl => match us, hl with | [_], _ => rfl)
  e_Play_back := by
    obtain ⟨fd, F⟩ := c.def_ 70 rfl
    exact met_at F (He.meth_ok (c.fact 115 (f := .meth "Play" "back") rfl)) (fun _ _ _ _ _ _ us hl => match us, hl with | [_, _], _ => rfl)
  e_Play_trying := by
    obtain ⟨fd, F⟩ := c.def_ 71 rfl
    exact met_at F (He.meth_ok (c.fact 116 (f := .meth "Play" "trying") rfl)) (fun _ _ _ _ _ _ us hl => match us, hl with | [_, _], _ => rfl)
  c_Web := He.cls_ok (c.fact 108 (f := .cls "Web") rfl)
  g_Web := He.glo_ok X G (c.fact 66 (f := .glo "Web") rfl)
  k_Web := He.mkr_ok (c.fact 109 (f := .mkr "Web") rfl)
  e_Web_init := by
    obtain ⟨fd, F⟩ := c.def_ 72 rfl
    exact met_at F (He.meth_ok (c.fact 117 (f := .meth "Web" "__init__") rfl)) (fun _ _ _ _ _ _ us hl => match us, hl with | [_, _, _], _ => rfl)
  e_Web_begin := by
    obtain ⟨fd, F⟩ := c.def_ 73 rfl
    exact met_at F (He.meth_ok (c.fact 118 (f := .meth "Web" "begin") rfl)) (fun _ _ _ _ _ _ us hl => match us, hl with | [_, _, _], _ => rfl)
  n_Play_web := He.noat_ok (c.fact 119 (f := .noat "Play" "web") rfl)
  n_Play_begun := He.noat_ok (c.fact 120 (f := .noat "Play" "begun") rfl)
  n_Play_past := He.noat_ok (c.fact 121 (f := .noat "Play" "past") rfl)
  n_Web_widths := He.noat_ok (c.fact 122 (f := .noat "Web" "widths") rfl)
  n_Web_pipes := He.noat_ok (c.fact 123 (f := .noat "Web" "pipes") rfl)
  n_Web_gauges := He.noat_ok (c.fact 124 (f := .noat "Web" "gauges") rfl)
  g_NoName := He.glo_ok X G (c.fact 79 (f := .glo "NoName") rfl)
  g_BadAnswer := He.glo_ok X G (c.fact 75 (f := .glo "BadAnswer") rfl)
  g_BadOpening := He.glo_ok X G (c.fact 76 (f := .glo "BadOpening") rfl)
  g_BadText := He.glo_ok X G (c.fact 77 (f := .glo "BadText") rfl)
  g_TooMany := He.glo_ok X G (c.fact 73 (f := .glo "TooMany") rfl)
  g_BadWeb := He.glo_ok X G (c.fact 68 (f := .glo "BadWeb") rfl)
  g_NoSights := He.glo_ok X G (c.fact 74 (f := .glo "NoSights") rfl)
  g_TooLarge := He.glo_ok X G (c.fact 69 (f := .glo "TooLarge") rfl)
  g_BadBook := He.glo_ok X G (c.fact 70 (f := .glo "BadBook") rfl)
  g_NoLine := He.glo_ok X G (c.fact 78 (f := .glo "NoLine") rfl)
  g_NothingDone := He.glo_ok X G (c.fact 80 (f := .glo "NothingDone") rfl)
  g_NoNumber := He.glo_ok X G (c.fact 67 (f := .glo "NoNumber") rfl)
  x_NoName_NoName := He.exm_ok (c.fact 125 (f := .exm "NoName" "NoName" true) rfl)
  x_BadAnswer_NoName := He.exm_ok (c.fact 126 (f := .exm "BadAnswer" "NoName" false) rfl)
  x_BadAnswer_BadAnswer := He.exm_ok (c.fact 127 (f := .exm "BadAnswer" "BadAnswer" true) rfl)
  x_BadOpening_NoName := He.exm_ok (c.fact 128 (f := .exm "BadOpening" "NoName" false) rfl)
  x_BadOpening_BadAnswer := He.exm_ok (c.fact 129 (f := .exm "BadOpening" "BadAnswer" false) rfl)
  x_BadOpening_BadOpening := He.exm_ok (c.fact 130 (f := .exm "BadOpening" "BadOpening" true) rfl)
  x_BadText_NoName := He.exm_ok (c.fact 131 (f := .exm "BadText" "NoName" false) rfl)
  x_BadText_BadAnswer := He.exm_ok (c.fact 132 (f := .exm "BadText" "BadAnswer" false) rfl)
  x_BadText_BadOpening := He.exm_ok (c.fact 133 (f := .exm "BadText" "BadOpening" false) rfl)
  x_BadText_BadText := He.exm_ok (c.fact 134 (f := .exm "BadText" "BadText" true) rfl)
  x_TooMany_NoName := He.exm_ok (c.fact 135 (f := .exm "TooMany" "NoName" false) rfl)
  x_TooMany_BadAnswer := He.exm_ok (c.fact 136 (f := .exm "TooMany" "BadAnswer" false) rfl)
  x_TooMany_BadOpening := He.exm_ok (c.fact 137 (f := .exm "TooMany" "BadOpening" false) rfl)
  x_TooMany_BadText := He.exm_ok (c.fact 138 (f := .exm "TooMany" "BadText" false) rfl)
  x_TooMany_TooMany := He.exm_ok (c.fact 139 (f := .exm "TooMany" "TooMany" true) rfl)
  x_BadWeb_NoName := He.exm_ok (c.fact 140 (f := .exm "BadWeb" "NoName" false) rfl)
  x_BadWeb_BadAnswer := He.exm_ok (c.fact 141 (f := .exm "BadWeb" "BadAnswer" false) rfl)
  x_BadWeb_BadOpening := He.exm_ok (c.fact 142 (f := .exm "BadWeb" "BadOpening" false) rfl)
  x_BadWeb_BadText := He.exm_ok (c.fact 143 (f := .exm "BadWeb" "BadText" false) rfl)
  x_BadWeb_TooMany := He.exm_ok (c.fact 144 (f := .exm "BadWeb" "TooMany" false) rfl)
  x_BadWeb_BadWeb := He.exm_ok (c.fact 145 (f := .exm "BadWeb" "BadWeb" true) rfl)
  x_NoSights_NoName := He.exm_ok (c.fact 146 (f := .exm "NoSights" "NoName" false) rfl)
  x_NoSights_BadAnswer := He.exm_ok (c.fact 147 (f := .exm "NoSights" "BadAnswer" false) rfl)
  x_NoSights_BadOpening := He.exm_ok (c.fact 148 (f := .exm "NoSights" "BadOpening" false) rfl)
  x_NoSights_BadText := He.exm_ok (c.fact 149 (f := .exm "NoSights" "BadText" false) rfl)
  x_NoSights_TooMany := He.exm_ok (c.fact 150 (f := .exm "NoSights" "TooMany" false) rfl)
  x_NoSights_BadWeb := He.exm_ok (c.fact 151 (f := .exm "NoSights" "BadWeb" false) rfl)
  x_NoSights_NoSights := He.exm_ok (c.fact 152 (f := .exm "NoSights" "NoSights" true) rfl)
  x_TooLarge_NoName := He.exm_ok (c.fact 153 (f := .exm "TooLarge" "NoName" false) rfl)
  x_TooLarge_BadAnswer := He.exm_ok (c.fact 154 (f := .exm "TooLarge" "BadAnswer" false) rfl)
  x_TooLarge_BadOpening := He.exm_ok (c.fact 155 (f := .exm "TooLarge" "BadOpening" false) rfl)
  x_TooLarge_BadText := He.exm_ok (c.fact 156 (f := .exm "TooLarge" "BadText" false) rfl)
  x_TooLarge_TooMany := He.exm_ok (c.fact 157 (f := .exm "TooLarge" "TooMany" false) rfl)
  x_TooLarge_BadWeb := He.exm_ok (c.fact 158 (f := .exm "TooLarge" "BadWeb" false) rfl)
  x_TooLarge_NoSights := He.exm_ok (c.fact 159 (f := .exm "TooLarge" "NoSights" false) rfl)
  x_TooLarge_TooLarge := He.exm_ok (c.fact 160 (f := .exm "TooLarge" "TooLarge" true) rfl)
  x_BadBook_NoName := He.exm_ok (c.fact 161 (f := .exm "BadBook" "NoName" false) rfl)
  x_BadBook_BadAnswer := He.exm_ok (c.fact 162 (f := .exm "BadBook" "BadAnswer" false) rfl)
  x_BadBook_BadOpening := He.exm_ok (c.fact 163 (f := .exm "BadBook" "BadOpening" false) rfl)
  x_BadBook_BadText := He.exm_ok (c.fact 164 (f := .exm "BadBook" "BadText" false) rfl)
  x_BadBook_TooMany := He.exm_ok (c.fact 165 (f := .exm "BadBook" "TooMany" false) rfl)
  x_BadBook_BadWeb := He.exm_ok (c.fact 166 (f := .exm "BadBook" "BadWeb" false) rfl)
  x_BadBook_NoSights := He.exm_ok (c.fact 167 (f := .exm "BadBook" "NoSights" false) rfl)
  x_BadBook_TooLarge := He.exm_ok (c.fact 168 (f := .exm "BadBook" "TooLarge" false) rfl)
  x_BadBook_BadBook := He.exm_ok (c.fact 169 (f := .exm "BadBook" "BadBook" true) rfl)
  x_NoLine_NoName := He.exm_ok (c.fact 170 (f := .exm "NoLine" "NoName" false) rfl)
  x_NoLine_BadAnswer := He.exm_ok (c.fact 171 (f := .exm "NoLine" "BadAnswer" false) rfl)
  x_NoLine_BadOpening := He.exm_ok (c.fact 172 (f := .exm "NoLine" "BadOpening" false) rfl)
  x_NoLine_BadText := He.exm_ok (c.fact 173 (f := .exm "NoLine" "BadText" false) rfl)
  x_NoLine_TooMany := He.exm_ok (c.fact 174 (f := .exm "NoLine" "TooMany" false) rfl)
  x_NoLine_BadWeb := He.exm_ok (c.fact 175 (f := .exm "NoLine" "BadWeb" false) rfl)
  x_NoLine_NoSights := He.exm_ok (c.fact 176 (f := .exm "NoLine" "NoSights" false) rfl)
  x_NoLine_TooLarge := He.exm_ok (c.fact 177 (f := .exm "NoLine" "TooLarge" false) rfl)
  x_NoLine_BadBook := He.exm_ok (c.fact 178 (f := .exm "NoLine" "BadBook" false) rfl)
  x_NoLine_NoLine := He.exm_ok (c.fact 179 (f := .exm "NoLine" "NoLine" true) rfl)
  x_NothingDone_NoName := He.exm_ok (c.fact 180 (f := .exm "NothingDone" "NoName" false) rfl)
  x_NothingDone_BadAnswer := He.exm_ok (c.fact 181 (f := .exm "NothingDone" "BadAnswer" false) rfl)
  x_NothingDone_BadOpening := He.exm_ok (c.fact 182 (f := .exm "NothingDone" "BadOpening" false) rfl)
  x_NothingDone_BadText := He.exm_ok (c.fact 183 (f := .exm "NothingDone" "BadText" false) rfl)
  x_NothingDone_TooMany := He.exm_ok (c.fact 184 (f := .exm "NothingDone" "TooMany" false) rfl)
  x_NothingDone_BadWeb := He.exm_ok (c.fact 185 (f := .exm "NothingDone" "BadWeb" false) rfl)
  x_NothingDone_NoSights := He.exm_ok (c.fact 186 (f := .exm "NothingDone" "NoSights" false) rfl)
  x_NothingDone_TooLarge := He.exm_ok (c.fact 187 (f := .exm "NothingDone" "TooLarge" false) rfl)
  x_NothingDone_BadBook := He.exm_ok (c.fact 188 (f := .exm "NothingDone" "BadBook" false) rfl)
  x_NothingDone_NoLine := He.exm_ok (c.fact 189 (f := .exm "NothingDone" "NoLine" false) rfl)
  x_NothingDone_NothingDone := He.exm_ok (c.fact 190 (f := .exm "NothingDone" "NothingDone" true) rfl)
  x_NoNumber_NoName := He.exm_ok (c.fact 191 (f := .exm "NoNumber" "NoName" false) rfl)
  x_NoNumber_BadAnswer := He.exm_ok (c.fact 192 (f := .exm "NoNumber" "BadAnswer" false) rfl)
  x_NoNumber_BadOpening := He.exm_ok (c.fact 193 (f := .exm "NoNumber" "BadOpening" false) rfl)
  x_NoNumber_BadText := He.exm_ok (c.fact 194 (f := .exm "NoNumber" "BadText" false) rfl)
  x_NoNumber_TooMany := He.exm_ok (c.fact 195 (f := .exm "NoNumber" "TooMany" false) rfl)
  x_NoNumber_BadWeb := He.exm_ok (c.fact 196 (f := .exm "NoNumber" "BadWeb" false) rfl)
  x_NoNumber_NoSights := He.exm_ok (c.fact 197 (f := .exm "NoNumber" "NoSights" false) rfl)
  x_NoNumber_TooLarge := He.exm_ok (c.fact 198 (f := .exm "NoNumber" "TooLarge" false) rfl)
  x_NoNumber_BadBook := He.exm_ok (c.fact 199 (f := .exm "NoNumber" "BadBook" false) rfl)
  x_NoNumber_NoLine := He.exm_ok (c.fact 200 (f := .exm "NoNumber" "NoLine" false) rfl)
  x_NoNumber_NothingDone := He.exm_ok (c.fact 201 (f := .exm "NoNumber" "NothingDone" false) rfl)
  x_NoNumber_NoNumber := He.exm_ok (c.fact 202 (f := .exm "NoNumber" "NoNumber" true) rfl)
end K14
end
section
/-! The end. -/
namespace K14
open PySem PySem.Spec PyProof.Rows L2 RZ K14H NdefX LamX
theorem file_ok : PFile (PySem.Challenge.rw_twotides_k14_whole_tries_put_back).prog := ⟨by kernel_rfl, by kernel_rfl⟩
theorem law_at {w : World} {mg : Str → Option Value} {fa0 : Addr} {h : Heap} {K : PySem.W.Frag} (X : K.In h) (G : h.Ns mainGlobals mg) (c : Says h K) (hfa : mg ("law" : Str) = some (.ref fa0)) (n : Nat) : LawAtS PySem.Challenge.rw_twotides_k14_whole_tries_put_back w K C8.CX0 13 n "_law_script" mg fa0 h := by
  have T := txt_of X G c.d
  have U : TxtE (PySem.Challenge.rw_twotides_k14_whole_tries_put_back).prog K mg := ⟨T, c.ex, c.third, file_ok⟩
  obtain ⟨fd, F⟩ := c.d.def_ 64 rfl
  obtain ⟨fdA, FA⟩ := c.d.def_ 61 rfl
  have gl : mg ("law" : Str) = some (.ref (He.fAd K ("law", none))) := He.glo_ok X G (c.d.fact 64 (f := .glo "law") rfl)
  have ga : mg ("_law_action" : Str) = some (.ref (He.fAd K ("_law_action", none))) := He.glo_ok X G (c.d.fact 61 (f := .glo "_law_action") rfl)
  obtain ⟨e1, _⟩ := defc_at (st := s_law) (ps := ["_law_script"]) F gl (fun _ _ _ _ _ _ us hl => match us, hl with | [_], _ => rfl)
  obtain ⟨_, DA⟩ := defc_at (st := s__law_action) (ps := frA) FA ga (fun _ _ _ _ _ _ us hl => match us, hl with | [_, _, _, _], _ => rfl)
  have ef : fa0 = He.fAd K ("law", none) := by
    have z := hfa.symm.trans gl
    cases z
    rfl
  subst ef
  have b := FunD.bindsA (ps := ["_law_script"]) F fun _ _ _ _ _ _ us hl => match us, hl with | [_], _ => rfl
  refine ⟨fd, tf.map (He.cT K), sp_law K (He.cT K ("law", none)).2 (He.cT K ("_law_action", none)).2, fun p hp => ?_, fun p hp => ?_, fun p hp => ?_, fun s v => b s [v] rfl, fun H a ns hl _ hT hS => ⟨a, ns, rfl, hS, fun p hp => ?_, fun _ => rfl⟩, fun base KB GB TB => ?_⟩
  · obtain ⟨q, hq, e⟩ := List.mem_map.mp hp
    rw [← e]
    exact c.empty q hq
  · obtain ⟨q, hq, e⟩ := List.mem_map.mp hp
    rw [← e]
    exact c.out q hq
  · obtain ⟨q, hq, e⟩ := List.mem_map.mp hp
    rw [← e]
    exact PySem.W.codeHd_of_K X (c.hd q hq)
  · simp only [TN, List.mem_cons, List.not_mem_nil, or_false] at hp
    rcases hp with rfl | rfl
    · exact TabN.nil (hT (He.cT K ("law", none)) (List.mem_map.mpr ⟨("law", none), by simp [tf], rfl⟩))
    · exact TabN.nil (hT (He.cT K ("_law_action", none)) (List.mem_map.mpr ⟨("_law_action", none), by simp [tf], rfl⟩))
  · exact ok_law U ⟨fun_of F, gl, F.kp⟩ e1 DA (TB _ (List.mem_map.mpr ⟨("law", none), by simp [tf], rfl⟩)) (TB _ (List.mem_map.mpr ⟨("_law_action", none), by simp [tf], rfl⟩)) c.ne
end K14
open PySem PySem.W PySem.Calls PyProof.Rows
theorem PySem.Challenge.cw_twotides_k14_whole_tries_put_back_holds : PySem.Challenge.rw_twotides_k14_whole_tries_put_back.Holds := by
  w_on; o_law
  refine HandSHeadRun.head_any (r := OpenLaw.row PySem.Challenge.rw_twotides_k14_whole_tries_put_back) (q := view (OpenLaw.row PySem.Challenge.rw_twotides_k14_whole_tries_put_back).prog [96]) (H := K14H.hk) (ob := K14H.ob) (M := 8000) (loose := K14H.names) (d := HandSHeadRun.topDef (OpenLaw.row PySem.Challenge.rw_twotides_k14_whole_tries_put_back).prog 96) (kwd := []) K14H.ob_eq
    (by kernel_rfl) (fun s => by kernel_rfl) K14H.run (by kernel_rfl) (by kernel_rfl) (by kernel_rfl) (by rfl) (by first | assumption | decide +kernel) (by decide +kernel) ⟨rfl, rfl, rfl, rfl, rfl, by decide +kernel⟩ ?hw ?hc
  case hw => w_witness2
  case hc =>
    refine LamX.walk_ofTsE (l := PySem.Challenge.rw_twotides_k14_whole_tries_put_back) (k := 13) (x := "_law_script") (CX := fun _ => C8.CX0) rfl (by decide) (by kernel_rfl) ⟨rfl, by decide, by decide⟩ ?F (fun _ _ _ _ _ z => z)
    intro w mg fa h Y G hmg0
    obtain ⟨K, KX, c⟩ := Y
    have hmg : mg ("law" : PySem.Str) = some (.ref fa) := by
      have e : (HandSHeadRun.topDef (OpenLaw.row PySem.Challenge.rw_twotides_k14_whole_tries_put_back).prog 96).name = ("law" : PySem.Str) := by kernel_rfl
      rw [← e]
      exact hmg0
    exact ⟨K, KX, K14.law_at KX G c hmg _⟩
end
