import PyProof.Rows.All
import Wide.All
import OpenK.AllK
import Wide.FinOn
import PyProof.EqAt
import PyProof.EqKinds
import PyProof.TupleCall
import KE.GoesEnum
import HandS.ForMost
import HandS.ForExc
import HandS.Walk
import HandS.IsInst
import HandS.Conv
import HandS.Style
import HandS.Zip
import HandS.Wide
import HandS.DeepEq
import HandS.More
import HandS.DictComp
import PySem.Challenge.RW_fullboats_k08_whole_counts_of_large_netw
set_option Elab.async false
set_option linter.all false
set_option maxRecDepth 100000
set_option maxHeartbeats 4000000

set_option maxHeartbeats 4000000
/-! enumerate(x), zip(x, y) in a for or a comprehension: x, y lists or tuples -/
namespace Fb
open PySem PySem.Spec PyProof.Rows L2

/-- a list (kd) or a tuple -/
def SqB (kd : Bool) (K : PySem.W.Frag) (H : Hp) (a : Addr) (xs : List V) : Prop := if kd = true then SqL K H a xs else SqT K H a xs
def SrcIt (kd : Bool) (h : Heap) (it a : Addr) (i : Nat) : Prop := if kd = true then h.IsListIter it a i else h.IsTupleIter it a i
def SrcIs (kd : Bool) (h : Heap) (a : Addr) (its : Array Value) : Prop := if kd = true then h.IsList a its else h.IsTuple a its
theorem SqB.inj {X : Cx} {pins : List (Addr × Obj)} {σ : L2.St} {H : Hp} {s : Shared} {kd : Bool} {a : Addr} {xs ys : List V} (I : Inv X pins σ H s) (h : SqB kd X.K H a xs) (h' : SqB kd X.K H a ys) : xs = ys := by
  cases kd
  · exact I.tuple_inj h h'
  · exact I.list_inj h h'
theorem SqB.src {X : Cx} {pins : List (Addr × Obj)} {σ : L2.St} {H : Hp} {s : Shared} {kd : Bool} {a : Addr} {xs : List V} (I : Inv X pins σ H s) (h : SqB kd X.K H a xs) : ∃ its : List Value, Vals xs its ∧ SrcIs kd s.heap a its.toArray ∧ a < s.heap.objs.size := by
  cases kd
  · obtain ⟨its, r, p, _⟩ := I.tuple h
    exact ⟨its, r, p, p.lt⟩
  · obtain ⟨its, r, p, _⟩ := I.list h
    exact ⟨its, r, p.isList, p.lt⟩
theorem SrcIt.obj {kd : Bool} {h : Heap} {it a : Addr} {i : Nat} (st : SrcIt kd h it a i) : ∃ o, h.get? it = some o ∧ ∀ v, o.data ≠ .cell v := by
  cases kd
  · obtain ⟨o, e, _, d⟩ := (show h.IsTupleIter it a i from st)
    exact ⟨o, e, fun v q => by rw [d] at q; cases q⟩
  · obtain ⟨o, e, _, d⟩ := (show h.IsListIter it a i from st)
    exact ⟨o, e, fun v q => by rw [d] at q; cases q⟩
theorem SrcIt.at' {kd : Bool} {h h' : Heap} {it a : Addr} {i : Nat} (st : SrcIt kd h it a i) (k : ∀ o, h.get? it = some o → h'.get? it = some o) : SrcIt kd h' it a i := by
  cases kd
  · exact (show h.IsTupleIter it a i from st).at k
  · exact (show h.IsListIter it a i from st).at k
theorem src_draws {prog : Program} {w : World} {A : Around} (hh : A.handled = none) (kd : Bool) (it a : Addr) (hne : a ≠ it) (items : Array Value) :
    Draws prog w A it [it, a] items.size (fun i v => items[i]? = some v) (fun i h => SrcIt kd h it a i ∧ SrcIs kd h a items) := by
  cases kd
  · exact Draws.tuple hh it a hne items
  · exact Draws.list hh it a hne items
def srcObj (kd : Bool) (a : Addr) : Obj := if kd = true then { cls := .type "list_iterator", data := .fields #[.ref a, .int 0 0] } else { cls := .type "tuple_iterator", data := .fields #[.ref a, .int 0 0] }
theorem src_begins (kd : Bool) (a : Addr) (items : Array Value) : Begins (.ref a) (srcObj kd a) fun h => SrcIs kd h a items := by
  cases kd
  · exact begins_tuple a items
  · exact begins_list a items
theorem src_new {kd : Bool} {h : Heap} {it a : Addr} (e : h.get? it = some (srcObj kd a)) : SrcIt kd h it a 0 := by
  cases kd
  · exact ⟨_, e, rfl, rfl⟩
  · exact ⟨_, e, rfl, rfl⟩

set_option maxHeartbeats 8000000 in
theorem meets_enumerate_newB1 {v : Value} {o : Obj} {H : Heap → Prop} (B : Begins v o H) :
    Meets (Builtin.«enumerate.__new__» ⟨[.type "enumerate", v], []⟩) (fun _ R s => H s.heap ∧
      R (.ok (.ret (.ref (s.heap.push o).objs.size))) { s with heap := (s.heap.push o).push { cls := .type "enumerate", data := .fields #[.none, .bool false, .ref s.heap.objs.size, rawInt 0, .none, .none] } }) :=
  .of_wp fun prog w A R s h => by
    obtain ⟨hp, g, d, tk, os⟩ := s; obtain ⟨h1, h⟩ := h
    have hsub := sub_enumerate
    have q1 : ∀ {A' : Around} {E : Value → Shared → Prop} {Q : Value → Shared → Prop}, Q (.ref hp.objs.size) ⟨hp.push o, g, d, tk, os⟩ → wpAny (model prog w) A' (pyIter v) Q E ⟨hp, g, d, tk, os⟩ :=
      fun q => B.iter prog w _ _ ⟨hp, g, d, tk, os⟩ _ h1 q
    wp_walk using q1
    refine wpAny_stack_any fun st => wpAny_pure ?_
    split
    · rename_i c _ _ _ _ _
      cases (c == Value.type "enumerate")
      · wp_walk using q1
        exact ⟨_, rfl, h⟩
      · wp_walk using q1
        exact ⟨_, rfl, h⟩
    · wp_walk using q1
      exact ⟨_, rfl, h⟩
theorem enum_begins1 {prog : Program} {w : World} {A : Around} {E : Value → Shared → Prop} {s : Shared} {v : Value} {o : Obj} {H : Heap → Prop} {Q : Value → Shared → Prop} (B : Begins v o H) (h1 : H s.heap)
    (h : ∀ h', IsEnum h' (s.heap.objs.size + 1) s.heap.objs.size 0 .none → h'.get? s.heap.objs.size = some o → h'.objs.size = s.heap.objs.size + 2 →
      (∀ b o, s.heap.get? b = some o → h'.get? b = some o) → Q (.ref (s.heap.objs.size + 1)) { s with heap := h' }) :
    wpAny (model prog w) A (call (.type "enumerate") [v]) Q E s := by
  refine callType_new F.called_enumerate (by decide) (F.typeCall_enumerate_1 _) (F.newCall_enumerate_1 _) (fun obj => F.args_object_init_2 obj _) F.entry_enumerate_new
    (meets_enumerate_newB1 B) ⟨h1, ?_⟩
  have hz : (s.heap.push o).objs.size = s.heap.objs.size + 1 := Heap.size_push ..
  show _ ∧ _
  rw [hz]
  have he : IsEnum ((s.heap.push o).push { cls := .type "enumerate", data := .fields #[.none, .bool false, .ref s.heap.objs.size, rawInt 0, .none, .none] }) (s.heap.objs.size + 1) s.heap.objs.size 0 .none := by
    have := Heap.get?_push_size (s.heap.push o) (o := { cls := .type "enumerate", data := .fields #[.none, .bool false, .ref s.heap.objs.size, rawInt 0, .none, .none] }) rfl
    rw [hz] at this; exact this
  refine ⟨⟨_, he, rfl⟩, h _ he (Heap.get?_push_of_some _ (Heap.get?_push_size _ B.free)) (by rw [Heap.size_push, hz]) fun b o x => Heap.get?_push_of_some _ (Heap.get?_push_of_some _ x)⟩

/-! ### enumerate -/
def ItE (kd : Bool) (K : PySem.W.Frag) (a : Addr) : It :=
  ⟨fun i H => ∃ (xs : List V) (x : V), SqB kd K H a xs ∧ xs[i]? = some x, fun i H v H' => ∃ T x, v = .ref T ∧ H T = none ∧ H' = upd H T (.tup [.int (i : Nat), x]) ∧ ∀ xs, SqB kd K H a xs → xs[i]? = some x, fun i H => ∃ xs : List V, SqB kd K H a xs ∧ xs.length = i⟩
theorem turn_enumB {P : Program} {w : World} {K : PySem.W.Frag} {elts : List Expr} {kk : Nat} {tpos : Pos} (kd : Bool) (a e it : Addr) :
    Turn P w K (.Tuple elts kk tpos) (ItE kd K a) [e, it] e (fun i h => (∃ old, IsEnum h e it ((i : Nat) : Int) old) ∧ SrcIt kd h it a i ∧ e ≠ it ∧ a ≠ it ∧ e ≠ a) where
  mem := by simp
  obj := fun i h st b hb => by
    obtain ⟨⟨old, he⟩, hi, _⟩ := st
    have e' : b = e ∨ b = it := by simpa using hb
    rcases e' with z | z
    · rw [z]; exact ⟨_, he, fun v q => nomatch q⟩
    · rw [z]; exact hi.obj
  keep := fun i h h' st k => let ⟨⟨old, he⟩, hi, hne⟩ := st; ⟨⟨old, k e (by simp) _ he⟩, hi.at' fun o q => k it (by simp) o q, hne⟩
  item := by
    intro X hP hw hK hc i pins s σ H E I hf st hg
    subst hP hw hK
    obtain ⟨⟨old, he⟩, hit, hne, hai, hea⟩ := st
    obtain ⟨xs, x, hq, hx⟩ := hg
    obtain ⟨its, rv, p, _⟩ := hq.src I
    obtain ⟨u, hu, ru⟩ := rv.get hx
    have hel : e < s.heap.objs.size := Heap.lt_size he
    have hil : it < s.heap.objs.size := by obtain ⟨_, q, _⟩ := hit.obj; exact Heap.lt_size q
    have hlt : i < its.toArray.size := by
      have := (List.getElem?_eq_some_iff.mp hu).1
      simpa using this
    refine wpAny_pyNext_enum_itemD (src_draws (by exact I.ok.hd hc) kd it a hai its.toArray) he ⟨hit, p⟩ hlt hne (by simp [hne, hea]) fun x' h' tk hP ho hit' hT hsz hk => ?_
    have ex : x' = u := by
      have h1 : its.toArray[i]? = some u := by simpa using hu
      rw [h1] at hP
      exact (Option.some.inj hP).symm
    subst ex
    refine ⟨_, rfl, wpAny_letOwnedTupleGo_enum (s := { s with heap := h', toks := tk + 1 }) ho fun h'' he' sb => ?_⟩
    have hT2 : h''.get? s.heap.objs.size = some { cls := .type "tuple", data := .seq #[.int i tk, x'] } := (sb.2 _ (Nat.ne_of_gt hel)).trans hT
    have new : ObjOk X.prog X.w (upd H s.heap.objs.size (.tup [.int (i : Nat), x])) h'' s.heap.objs.size (.tup [.int (i : Nat), x]) :=
      ⟨by show 2 ≤ sizeLine; decide, [.int i tk, x'], .cons ⟨_, rfl⟩ (.cons ru .nil), ⟨_, hT2, rfl, _, rfl⟩⟩
    have I1 : Inv X pins σ (upd H s.heap.objs.size (.tup [.int (i : Nat), x])) { s with heap := h'', toks := tk + 1 } :=
      I.turnedNew (ch := [e, it]) (fun b ob hb q => (sb.2 b (fun z => hb (by simp [z]))).trans (hk b ob (fun z => hb (by simp [z])) (fun z => hb (by simp [z])) q)) hf (Nat.le_refl _) new
    refine ⟨.ref s.heap.objs.size, _, I1, rfl, ⟨_, x, rfl, I.hok.fresh (Nat.le_refl _), rfl, fun ys hy => by rw [hy.inj I hq]; exact hx⟩, ⟨⟨x', ?_⟩, hit'.1.at' fun o q => (sb.2 it (Ne.symm hne)).trans q, hne, hai, hea⟩, fun b hb => ?_⟩
    · have e1 : ((i + 1 : Nat) : Int) = (i : Int) + 1 := by omega
      rw [e1]; exact he'
    · have hb' : b < s.heap.objs.size := by
        have e' : b = e ∨ b = it := by simpa using hb
        rcases e' with z | z
        · rw [z]; exact hel
        · rw [z]; exact hil
      rw [upd_ne (Nat.ne_of_lt hb')]
      exact (hf b hb).1
  done := by
    intro X hP hw hK hc i pins s σ H E I hf st hg
    subst hP hw hK
    obtain ⟨⟨old, he⟩, hit, hne, hai, hea⟩ := st
    obtain ⟨xs, hq, hx⟩ := hg
    obtain ⟨its, rv, p, _⟩ := hq.src I
    obtain ⟨f0, f1, f2, f3, f4, f5⟩ := hf it (by simp)
    have hl : i = its.toArray.size := by
      have := rv.length
      simp
      omega
    subst hl
    exact wpAny_pyNext_enum_endD (src_draws (by exact I.ok.hd hc) kd it a hai its.toArray) he ⟨hit, p⟩ fun h' eb => ⟨rfl, I.turned (t' := s.toks) (fun b o hb q => eb b o hb q) f0 f1 f3 f4 f5⟩
  self := fun A i s Q E st h => let ⟨⟨_, he⟩, _⟩ := st; wpAny_pyIter_enum he h
def iEnumB (K : PySem.W.Frag) (ta : TA) : TI := fun σ H R => ta σ H fun vs H1 => ∃ kd a xs, vs = [.ref a] ∧ SqB kd K H1 a xs ∧ R (ItE kd K a) H1
theorem pi_enumB {X : Cx} {e : Expr} {ta : TA} {p pos tpos : Pos} {elts : List Expr} {kk : Nat} (hg : Gl X "enumerate") (hm : X.mg "enumerate" = none) (ha : PA X [e] ta) (hs : starEach [e] X.env = [(false, eval e X.env)] := by rfl) :
    PI X (.Tuple elts kk tpos) (.Call (.Name "enumerate" p) [e] [] pos) (iEnumB X.K ta) := by
  refine ⟨fun pins s σ H R I h => ?_⟩
  refine Call_ (ld_blt I hg hm boot_enumerate (PyProof.Rows.callWith_type1 (thn (ha.run pos pins s σ H _ I h) fun us s1 ⟨vs, H1, I1, r1, q1⟩ => ?_) hs rfl))
  obtain ⟨kd, a, xs, ex, hq, q⟩ := q1
  subst ex
  cases r1 with
  | cons r rr =>
    cases rr
    cases r
    obtain ⟨its, rv, p', hlt⟩ := hq.src I1
    refine enum_begins1 (src_begins kd a its.toArray) p' fun h' he hit hsz hk => wpAny_pyIter_enum he ?_
    have I2 : Inv X pins σ H1 { s1 with heap := h' } := I1.kept (t' := s1.toks) hk
    refine ⟨s1.heap.objs.size + 1, [s1.heap.objs.size + 1, s1.heap.objs.size], _, _, H1, rfl, I2, turn_enumB kd a (s1.heap.objs.size + 1) s1.heap.objs.size, ⟨⟨.none, he⟩, src_new hit, Nat.succ_ne_self _, Nat.ne_of_lt hlt, Nat.ne_of_gt (Nat.lt_succ_of_lt hlt)⟩, fun b hb => ?_, q⟩
    have e' : b = s1.heap.objs.size + 1 ∨ b = s1.heap.objs.size := by simpa using hb
    have hle : s1.heap.objs.size ≤ b := by
      rcases e' with z | z
      · rw [z]; exact Nat.le_add_right _ _
      · rw [z]; exact Nat.le_refl _
    exact I1.fpOk hle (I1.hok.fresh hle)
theorem walk_enumB {kd : Bool} {K : PySem.W.Frag} {a : Addr} {xs : List V} : Walk (ItE kd K a) xs.length (fun H => SqB kd K H a xs) (YPair (fun i => some (.int (i : Nat))) (fun i => xs[i]?)) := by
  refine ⟨fun i H hi g => ⟨xs, xs[i], g, by simp [hi]⟩, fun H g => ⟨xs, g, rfl⟩, fun i H x H' hi g y => ?_⟩
  obtain ⟨T, z, e, n, e2, f⟩ := y
  exact ⟨T, _, z, e, n, e2, rfl, f xs g⟩

/-! ### zip -/
def ItZ (k1 k2 : Bool) (K : PySem.W.Frag) (a b : Addr) : It :=
  ⟨fun i H => ∃ (xs ys : List V) (x y : V), SqB k1 K H a xs ∧ SqB k2 K H b ys ∧ xs[i]? = some x ∧ ys[i]? = some y,
    fun i H v H' => ∃ T x y, v = .ref T ∧ H T = none ∧ H' = upd H T (.tup [x, y]) ∧ (∀ xs, SqB k1 K H a xs → xs[i]? = some x) ∧ ∀ ys, SqB k2 K H b ys → ys[i]? = some y,
    fun i H => ∃ xs ys : List V, SqB k1 K H a xs ∧ SqB k2 K H b ys ∧ i ≤ xs.length ∧ i ≤ ys.length ∧ (i = xs.length ∨ i = ys.length)⟩
structure ZAp (z TI TO i1 i2 a b : Addr) : Prop where
  S : ZipSep2 z TI TO i1 i2 [i1, a] [i2, b]
  a1 : a ≠ i1
  b2 : b ≠ i2
theorem turn_zipB {P : Program} {w : World} {K : PySem.W.Frag} {elts : List Expr} {kk : Nat} {tpos : Pos} (k1 k2 : Bool) {a b z TI TO i1 i2 : Addr} (D : ZAp z TI TO i1 i2 a b) :
    Turn P w K (.Tuple elts kk tpos) (ItZ k1 k2 K a b) [z, TI, TO, i1, i2] z (fun i h => IsZip h z TI TO .none ∧ IsTupOf2 h TI (.ref i1) (.ref i2) ∧ (∃ x y, IsTupOf2 h TO x y) ∧ SrcIt k1 h i1 a i ∧ SrcIt k2 h i2 b i) where
  mem := by simp
  obj := fun i h st c hc => by
    obtain ⟨hz, hTI, ⟨x, y, hTO⟩, h1, h2⟩ := st
    have e' : c = z ∨ c = TI ∨ c = TO ∨ c = i1 ∨ c = i2 := by simpa using hc
    rcases e' with q | q | q | q | q
    · rw [q]; exact ⟨_, hz, fun v q => nomatch q⟩
    · rw [q]; exact ⟨_, hTI, fun v q => nomatch q⟩
    · rw [q]; exact ⟨_, hTO, fun v q => nomatch q⟩
    · rw [q]; exact h1.obj
    · rw [q]; exact h2.obj
  keep := fun i h h' st k => by
    obtain ⟨hz, hTI, ⟨x, y, hTO⟩, h1, h2⟩ := st
    exact ⟨k z (by simp) _ hz, k TI (by simp) _ hTI, ⟨x, y, k TO (by simp) _ hTO⟩, h1.at' fun o q => k i1 (by simp) o q, h2.at' fun o q => k i2 (by simp) o q⟩
  item := by
    intro X hP hw hK hc i pins s σ H E I hf st hg
    subst hP hw hK
    obtain ⟨hz, hTI, ⟨x0, y0, hTO⟩, h1, h2⟩ := st
    obtain ⟨xs, ys, x, y, hqx, hqy, hx, hy⟩ := hg
    obtain ⟨its, rv, p, _⟩ := hqx.src I
    obtain ⟨its2, rv2, p2, _⟩ := hqy.src I
    obtain ⟨u, hu, ru⟩ := rv.get hx
    obtain ⟨u2, hu2, ru2⟩ := rv2.get hy
    have hzl : z < s.heap.objs.size := Heap.lt_size hz
    have l1 : i < its.toArray.size := by simpa using (List.getElem?_eq_some_iff.mp hu).1
    have l2 : i < its2.toArray.size := by simpa using (List.getElem?_eq_some_iff.mp hu2).1
    have hh : X.A.handled = none := I.ok.hd hc
    refine wpAny_pyNext_zipD2_item D.S (src_draws (by exact hh) k1 i1 a D.a1 its.toArray) (src_draws (by exact hh) k2 i2 b D.b2 its2.toArray) hz hTI hTO ⟨h1, p⟩ ⟨h2, p2⟩ l1 l2 fun x1 x2 h' tk q1 q2 z' TO' s1' s2' hT hsz hk => ?_
    have e1 : x1 = u := by
      have r : its.toArray[i]? = some u := by simpa using hu
      rw [r] at q1
      exact (Option.some.inj q1).symm
    have e2 : x2 = u2 := by
      have r : its2.toArray[i]? = some u2 := by simpa using hu2
      rw [r] at q2
      exact (Option.some.inj q2).symm
    subst e1 e2
    refine ⟨_, rfl, wpAny_letOwnedTupleGo_zip (s := { s with heap := h', toks := tk }) z' fun h'' z'' sb => ?_⟩
    have hT2 : h''.get? s.heap.objs.size = some { cls := .type "tuple", data := .seq #[x1, x2] } := (sb.2 _ (Nat.ne_of_gt hzl)).trans hT
    have new : ObjOk X.prog X.w (upd H s.heap.objs.size (.tup [x, y])) h'' s.heap.objs.size (.tup [x, y]) :=
      ⟨by show 2 ≤ sizeLine; decide, [x1, x2], .cons ru (.cons ru2 .nil), ⟨_, hT2, rfl, _, rfl⟩⟩
    have I1 : Inv X pins σ (upd H s.heap.objs.size (.tup [x, y])) { s with heap := h'', toks := tk } :=
      I.turnedNew (t' := tk) (ch := [z, TI, TO, i1, i2]) (fun c o hb q => (sb.2 c (fun q' => hb (by simp [q']))).trans (hk c o (fun q' => hb (by simp [q'])) (fun q' => hb (by simp [q'])) (fun q' => hb (by simp [q'])) (fun q' => hb (by simp [q'])) q)) hf (Nat.le_refl _) new
    refine ⟨.ref s.heap.objs.size, _, I1, rfl, ⟨_, x, y, rfl, I.hok.fresh (Nat.le_refl _), rfl, fun l hl => by rw [hl.inj I hqx]; exact hx, fun l hl => by rw [hl.inj I hqy]; exact hy⟩, ⟨z'', ?_, ⟨x1, x2, ?_⟩, ?_, ?_⟩, fun c hcm => ?_⟩
    · exact (sb.2 _ D.S.TIz).trans (hk _ _ D.S.TIz D.S.TITO D.S.TIi1 D.S.TIi2 hTI)
    · exact (sb.2 _ D.S.TOz).trans TO'
    · exact s1'.1.at' fun o q => (sb.2 _ (Ne.symm D.S.zi1)).trans q
    · exact s2'.1.at' fun o q => (sb.2 _ (Ne.symm D.S.zi2)).trans q
    · have hlt : c < s.heap.objs.size := by
        have e' : c = z ∨ c = TI ∨ c = TO ∨ c = i1 ∨ c = i2 := by simpa using hcm
        rcases e' with q | q | q | q | q
        · rw [q]; exact hzl
        · rw [q]; exact Heap.lt_size hTI
        · rw [q]; exact Heap.lt_size hTO
        · rw [q]; obtain ⟨_, e1, _⟩ := h1.obj; exact Heap.lt_size e1
        · rw [q]; obtain ⟨_, e2, _⟩ := h2.obj; exact Heap.lt_size e2
      rw [upd_ne (Nat.ne_of_lt hlt)]
      exact (hf c hcm).1
  done := by
    intro X hP hw hK hc i pins s σ H E I hf st hg
    subst hP hw hK
    obtain ⟨hz, hTI, ⟨x0, y0, hTO⟩, h1, h2⟩ := st
    obtain ⟨xs, ys, hqx, hqy, le1, le2, hend⟩ := hg
    obtain ⟨its, rv, p, _⟩ := hqx.src I
    obtain ⟨its2, rv2, p2, _⟩ := hqy.src I
    have l1 := rv.length
    have l2 := rv2.length
    have hh : X.A.handled = none := I.ok.hd hc
    exact wpAny_pyNext_zipD2_end D.S (src_draws (by exact hh) k1 i1 a D.a1 its.toArray) (src_draws (by exact hh) k2 i2 b D.b2 its2.toArray) hz hTI hTO ⟨h1, p⟩ ⟨h2, p2⟩ (by simp; omega) (by simp; omega) (by simp; omega) fun h' tk hk => ⟨rfl, I.turnedL (t' := tk) (ch := [z, TI, TO, i1, i2]) (fun c o hb q =>
      hk c o (fun q' => hb (by simp [q'])) (fun q' => hb (by simp [q'])) (fun q' => hb (by simp [q'])) (fun q' => hb (by simp [q'])) q) hf⟩
  self := fun A i s Q E st h => wpAny_pyIter_zip st.1 h
def iZipB (K : PySem.W.Frag) (ta : TA) : TI := fun σ H R => ta σ H fun vs H1 => ∃ k1 k2 a b xs ys, vs = [.ref a, .ref b] ∧ SqB k1 K H1 a xs ∧ SqB k2 K H1 b ys ∧ R (ItZ k1 k2 K a b) H1
theorem pi_zipB {X : Cx} {e e2 : Expr} {ta : TA} {p pos tpos : Pos} {elts : List Expr} {kk : Nat} (hg : Gl X "zip") (hm : X.mg "zip" = none) (ha : PA X [e, e2] ta)
    (hs : starEach [e, e2] X.env = (false, eval e X.env) :: starEach [e2] X.env := by rfl) (hpl : (backTo pos (starEach [e2] X.env)).any (·.1) = false := by rfl) :
    PI X (.Tuple elts kk tpos) (.Call (.Name "zip" p) [e, e2] [] pos) (iZipB X.K ta) := by
  refine ⟨fun pins s σ H R I h => ?_⟩
  refine Call_ (ld_blt I hg hm PyProof.Rows.boot_zip (PyProof.Rows.callWith_type1 (thn (ha.run pos pins s σ H _ I h) fun us s1 ⟨vs, H1, I1, r1, q1⟩ => ?_) hs hpl))
  obtain ⟨k1, k2, a, b, xs, ys, ex, hqx, hqy, q⟩ := q1
  subst ex
  cases r1 with
  | cons r rr =>
    cases rr with
    | cons r' rr =>
      cases rr
      cases r
      cases r'
      obtain ⟨its, rv, p1, la⟩ := hqx.src I1
      obtain ⟨its2, rv2, p2, lb⟩ := hqy.src I1
      refine zip_begins2 (src_begins k1 a its.toArray) (src_begins k2 b its2.toArray) p1 p2 fun h' hz hTI hTO h1 h2 hsz hk => wpAny_pyIter_zip hz ?_
      have I2 : Inv X pins σ H1 { s1 with heap := h' } := I1.kept (t' := s1.toks) hk
      have ap : ZAp (s1.heap.objs.size + 4) (s1.heap.objs.size + 2) (s1.heap.objs.size + 3) s1.heap.objs.size (s1.heap.objs.size + 1) a b :=
        ⟨zip_sep2 (fp1 := [a]) (fp2 := [b]) (fun c hc => by rw [List.mem_singleton.mp hc]; exact la) (fun c hc => by rw [List.mem_singleton.mp hc]; exact lb), Nat.ne_of_lt la, Nat.ne_of_lt (Nat.lt_succ_of_lt lb)⟩
      refine ⟨s1.heap.objs.size + 4, [s1.heap.objs.size + 4, s1.heap.objs.size + 2, s1.heap.objs.size + 3, s1.heap.objs.size, s1.heap.objs.size + 1], _, _, H1, rfl, I2, turn_zipB k1 k2 ap, ⟨hz, hTI, ⟨_, _, hTO⟩, src_new h1, src_new h2⟩, fun c hcm => ?_, q⟩
      have e' : c = s1.heap.objs.size + 4 ∨ c = s1.heap.objs.size + 2 ∨ c = s1.heap.objs.size + 3 ∨ c = s1.heap.objs.size ∨ c = s1.heap.objs.size + 1 := by simpa using hcm
      have hle : s1.heap.objs.size ≤ c := by
        rcases e' with z | z | z | z | z
        · rw [z]; exact Nat.le_add_right _ _
        · rw [z]; exact Nat.le_add_right _ _
        · rw [z]; exact Nat.le_add_right _ _
        · rw [z]; exact Nat.le_refl _
        · rw [z]; exact Nat.le_add_right _ _
      exact I1.fpOk hle (I1.hok.fresh hle)
theorem walk_zipB {k1 k2 : Bool} {K : PySem.W.Frag} {a b : Addr} {xs ys : List V} {n : Nat} (hn : n = min xs.length ys.length) : Walk (ItZ k1 k2 K a b) n (fun H => SqB k1 K H a xs ∧ SqB k2 K H b ys) (YPair (fun i => xs[i]?) (fun i => ys[i]?)) := by
  refine ⟨fun i H hi g => ⟨xs, ys, xs[i]'(by omega), ys[i]'(by omega), g.1, g.2, by simp, by simp⟩, fun H g => ⟨xs, ys, g.1, g.2, by omega, by omega, by omega⟩, fun i H x H' hi g y => ?_⟩
  obtain ⟨T, z, z2, e, n, e2, f, f2⟩ := y
  exact ⟨T, z, z2, e, n, e2, f xs g.1, f2 ys g.2⟩
end Fb

set_option maxHeartbeats 4000000
/-! heaps, immutable data, the state of a walk, one lemma a reading -/
namespace Fb
open PySem L2

/-! ### heaps -/
def TK (H H' : Hp) : Prop := ∀ a xs, H a = some (.tup xs) → H' a = some (.tup xs)
theorem TK.refl (H : Hp) : TK H H := fun _ _ h => h
theorem TK.trans {H H1 H2 : Hp} (a : TK H H1) (b : TK H1 H2) : TK H H2 := fun x o h => b x o (a x o h)
theorem TK.same {H H' : Hp} (e : Same H H') : TK H H' := fun a xs h => e a _ h
theorem Same.new {H : Hp} {p : Addr} {o : HO} (h : H p = none) : Same H (upd H p o) := fun a u e => by
  rw [upd_ne (ne_of_none e h)]
  exact e
/-- all but what stands at B -/
def ExB (B : List Addr) (H H' : Hp) : Prop := ∀ a o, a ∉ B → H a = some o → H' a = some o
theorem ExB.same {B : List Addr} {H H' : Hp} (e : Same H H') : ExB B H H' := fun a o _ h => e a o h
theorem ExB.to {H H' : Hp} (e : ExB [] H H') : Same H H' := fun a o h => e a o (by simp) h

/-! ### data that never changes: ints, texts, bools, None, tuples of these -/
def TupAt (K : PySem.W.Frag) (H : Hp) (a : Addr) (xs : List V) : Prop := H a = some (.tup xs) ∨ ∀ H', SqT K H' a xs
theorem TupAt.sq {K : PySem.W.Frag} {H : Hp} {a : Addr} {xs : List V} (h : TupAt K H a xs) : SqT K H a xs := by
  rcases h with h | h
  · exact SqT.of h
  · exact h H
theorem TupAt.keep {K : PySem.W.Frag} {H H' : Hp} {a : Addr} {xs : List V} (t : TK H H') (h : TupAt K H a xs) : TupAt K H' a xs := by
  rcases h with h | h
  · exact .inl (t _ _ h)
  · exact .inr h
mutual
inductive Dt (K : PySem.W.Frag) (H : Hp) : V → PyData → Prop
  | non : Dt K H .non .none
  | bl (b : Bool) : Dt K H (.bl b) (.bool b)
  | int (i : Int) : Dt K H (.int i) (.int i)
  | str (x : Str) : Dt K H (.str x) (.str x)
  | tup {a : Addr} {xs : List V} {ds : List PyData} : TupAt K H a xs → DtAll K H xs ds → Dt K H (.ref a) (.tuple ds)
inductive DtAll (K : PySem.W.Frag) (H : Hp) : List V → List PyData → Prop
  | nil : DtAll K H [] []
  | cons {v : V} {vs : List V} {d : PyData} {ds : List PyData} : Dt K H v d → DtAll K H vs ds → DtAll K H (v :: vs) (d :: ds)
end
section
variable {K : PySem.W.Frag} {H H' : Hp}
mutual
theorem Dt.keep (t : TK H H') : ∀ (d : PyData) (v : V), Dt K H v d → Dt K H' v d
  | .none, _, h => by cases h; exact .non
  | .bool b, _, h => by cases h; exact .bl b
  | .int i, _, h => by cases h; exact .int i
  | .str x, _, h => by cases h; exact .str x
  | .list _, _, h => by cases h
  | .tuple ds, _, h => by
    cases h with
    | tup hs ha => exact .tup (hs.keep t) (Dt.keepAll t ds _ ha)
  | .dict _, _, h => by cases h
theorem Dt.keepAll (t : TK H H') : ∀ (ds : List PyData) (vs : List V), DtAll K H vs ds → DtAll K H' vs ds
  | [], _, h => by cases h; exact .nil
  | d :: ds, _, h => by
    cases h with
    | cons h1 h2 => exact .cons (Dt.keep t d _ h1) (Dt.keepAll t ds _ h2)
end
mutual
theorem Dt.dp : ∀ (d : PyData) (v : V), Dt K H v d → Dp K H v d
  | .none, _, h => by cases h; exact .non
  | .bool b, _, h => by cases h; exact .bl b
  | .int i, _, h => by cases h; exact .int i
  | .str x, _, h => by cases h; exact .str x
  | .list _, _, h => by cases h
  | .tuple ds, _, h => by
    cases h with
    | tup hs ha => exact .tup hs.sq (Dt.dpAll ds _ ha)
  | .dict _, _, h => by cases h
theorem Dt.dpAll : ∀ (ds : List PyData) (vs : List V), DtAll K H vs ds → DpAll K H vs ds
  | [], _, h => by cases h; exact .nil
  | d :: ds, _, h => by
    cases h with
    | cons h1 h2 => exact .cons (Dt.dp d _ h1) (Dt.dpAll ds _ h2)
end
theorem Dt.tup_inv {v : V} {ds : List PyData} (h : Dt K H v (.tuple ds)) : ∃ a xs, v = .ref a ∧ TupAt K H a xs ∧ DtAll K H xs ds := by
  cases h with
  | tup hs ha => exact ⟨_, _, rfl, hs, ha⟩
theorem DtAll.len {xs : List V} {ds : List PyData} (h : DtAll K H xs ds) : xs.length = ds.length := by
  induction ds generalizing xs with
  | nil => cases h; rfl
  | cons d ds ih =>
    cases h with
    | cons h1 h2 => simp [ih h2]
theorem DtAll.get {xs : List V} {ds : List PyData} {i : Nat} {x : V} (h : DtAll K H xs ds) (e : xs[i]? = some x) : ∃ d, ds[i]? = some d ∧ Dt K H x d := by
  induction ds generalizing xs i with
  | nil => cases h; simp at e
  | cons d ds ih =>
    cases h with
    | cons h1 h2 =>
      cases i with
      | zero =>
        simp at e
        subst e
        exact ⟨d, rfl, h1⟩
      | succ i => exact ih h2 (by simpa using e)
theorem DtAll.at {xs : List V} {ds : List PyData} {i : Nat} {d : PyData} (h : DtAll K H xs ds) (e : ds[i]? = some d) : ∃ x, xs[i]? = some x ∧ Dt K H x d := by
  have hl := h.len
  have hi : i < ds.length := (List.getElem?_eq_some_iff.mp e).1
  have hx : xs[i]? = some (xs[i]'(by omega)) := by simp
  obtain ⟨d', e', k⟩ := h.get hx
  rw [e] at e'
  cases e'
  exact ⟨_, hx, k⟩
theorem DtAll.snoc {xs : List V} {ds : List PyData} {x : V} {d : PyData} (h : DtAll K H xs ds) (k : Dt K H x d) : DtAll K H (xs ++ [x]) (ds ++ [d]) := by
  induction ds generalizing xs with
  | nil => cases h; exact .cons k .nil
  | cons d ds ih =>
    cases h with
    | cons h1 h2 => exact .cons h1 (ih h2)
def kD : Key → PyData
  | .inl i => .int i
  | .inr x => .str x
theorem kD_dt (k : Key) : Dt K H (kV k) (kD k) := by
  cases k with
  | inl i => exact .int i
  | inr x => exact .str x
theorem kD_inv {k : Key} {v : V} (h : Dt K H v (kD k)) : v = kV k := by
  cases k with
  | inl i => cases h; rfl
  | inr x => cases h; rfl
theorem DtAll.keys {ks : List Key} {xs : List V} (h : DtAll K H xs (ks.map kD)) : xs = ks.map kV := by
  induction ks generalizing xs with
  | nil => cases h; rfl
  | cons k ks ih =>
    cases h with
    | cons h1 h2 => rw [kD_inv h1, ih h2]; rfl
theorem DtAll.of_keys (ks : List Key) : DtAll K H (ks.map kV) (ks.map kD) := by
  induction ks with
  | nil => exact .nil
  | cons k ks ih => exact .cons (kD_dt k) ih
theorem DtAll.ints {ns : List Int} {xs : List V} (h : DtAll K H xs (ns.map PyData.int)) : xs = ns.map V.int := by
  induction ns generalizing xs with
  | nil => cases h; rfl
  | cons k ks ih =>
    cases h with
    | cons h1 h2 => cases h1; rw [ih h2]; rfl
theorem DtAll.of_ints (ns : List Int) : DtAll K H (ns.map V.int) (ns.map PyData.int) := by
  induction ns with
  | nil => exact .nil
  | cons k ks ih => exact .cons (.int k) ih
end
/-- seats, networks, states as data -/
def seatsD (ks : List Key) : PyData := .tuple (ks.map kD)
def netD (net : List (List Key)) : PyData := .tuple (net.map seatsD)
def intsD (ns : List Int) : PyData := .tuple (ns.map PyData.int)
def queuesD (qs : List (List Int)) : PyData := .tuple (qs.map intsD)
def stD (n : Int) (qs : List (List Int)) : PyData := .tuple [.int n, queuesD qs]

/-! ### the state of a walk: H0 the heap at the entry, B what may change of it, L the objects one owns, P what is known and stays -/
def Pers (φ : Hp → Prop) : Prop := ∀ H H', TK H H' → φ H → φ H'
theorem Pers.tup {K : PySem.W.Frag} {a : Addr} {xs : List V} : Pers fun H => TupAt K H a xs := fun _ _ t h => h.keep t
theorem Pers.dt {K : PySem.W.Frag} {v : V} {d : PyData} : Pers fun H => Dt K H v d := fun _ _ t h => h.keep t
theorem Pers.all {K : PySem.W.Frag} {vs : List V} {ds : List PyData} : Pers fun H => DtAll K H vs ds := fun _ _ t h => Dt.keepAll t _ _ h
def isMut : HO → Prop
  | .tup _ => False
  | .frz _ _ => False
  | _ => True
structure Stt (B : List Addr) (H0 : Hp) (L : List (Addr × HO)) (P : List (Hp → Prop)) (H : Hp) : Prop where
  ex : ∀ a o, a ∉ B → H0 a = some o → H a = some o
  own : ∀ p ∈ L, H p.1 = some p.2
  mu : ∀ p ∈ L, isMut p.2
  fr : ∀ p ∈ L, H0 p.1 = none ∨ p.1 ∈ B
  nd : (L.map (·.1)).Nodup
  ps : ∀ φ ∈ P, φ H
  pp : ∀ φ ∈ P, Pers φ
  tk : TK H0 H
section
variable {K : PySem.W.Frag} {B : List Addr} {H0 H H' : Hp} {L : List (Addr × HO)} {P : List (Hp → Prop)}
theorem Stt.init (H : Hp) : Stt [] H [] [] H := ⟨fun _ _ _ h => h, fun _ h => (List.not_mem_nil h).elim, fun _ h => (List.not_mem_nil h).elim, fun _ h => (List.not_mem_nil h).elim, List.nodup_nil, fun _ h => (List.not_mem_nil h).elim, fun _ h => (List.not_mem_nil h).elim, TK.refl H⟩
/-- what stands at B may change, as the caller owns it -/
theorem Stt.start (B : List Addr) (L : List (Addr × HO)) (H : Hp) (h : ∀ p ∈ L, H p.1 = some p.2 ∧ isMut p.2) (e : L.map (·.1) = B) (nd : B.Nodup) : Stt B H L [] H :=
  ⟨fun _ _ _ h => h, fun p m => (h p m).1, fun p m => (h p m).2, fun p m => .inr (by rw [← e]; exact List.mem_map_of_mem m), by rw [e]; exact nd, fun _ h => (List.not_mem_nil h).elim, fun _ h => (List.not_mem_nil h).elim, TK.refl H⟩
theorem Stt.same (s : Stt [] H0 L P H) : Same H0 H := fun a o h => s.ex a o (by simp) h
theorem Stt.at (s : Stt B H0 L P H) (k : Nat) {a : Addr} {o : HO} (h : L[k]? = some (a, o)) : H a = some o := s.own (a, o) (List.mem_of_getElem? h)
theorem Stt.isNew (s : Stt [] H0 L P H) (k : Nat) {a : Addr} {o : HO} (h : L[k]? = some (a, o)) : H0 a = none := (s.fr (a, o) (List.mem_of_getElem? h)).resolve_right (by simp)
theorem Stt.ne (s : Stt B H0 L P H) (i j : Nat) {a b : Addr} {o o' : HO} (h : L[i]? = some (a, o)) (h' : L[j]? = some (b, o')) (n : i ≠ j) : a ≠ b := fun e => by
  have a1 : (L.map (·.1))[i]? = some a := by rw [List.getElem?_map, h]; rfl
  have a2 : (L.map (·.1))[j]? = some a := by rw [List.getElem?_map, h', e]; rfl
  exact n (nd_ix s.nd a1 a2)
theorem Stt.pers (s : Stt B H0 L P H) (k : Nat) {φ : Hp → Prop} (h : P[k]? = some φ) : φ H := s.ps φ (List.mem_of_getElem? h)
theorem Stt.tk_ps {P : List (Hp → Prop)} (pp : ∀ φ ∈ P, Pers φ) (ps : ∀ φ ∈ P, φ H) (t : TK H H') : ∀ φ ∈ P, φ H' := fun φ h => pp φ h _ _ t (ps φ h)
/-- all is kept -/
theorem Stt.ext (s : Stt B H0 L P H) (e : Same H H') : Stt B H0 L P H' :=
  ⟨fun a o h0 h => e a o (s.ex a o h0 h), fun p h => e _ _ (s.own p h), s.mu, s.fr, s.nd, Stt.tk_ps s.pp s.ps (TK.same e), s.pp, s.tk.trans (TK.same e)⟩
/-- something new is known -/
theorem Stt.know (s : Stt B H0 L P H) {φ : Hp → Prop} (h : φ H) (k : Pers φ) : Stt B H0 L (P ++ [φ]) H :=
  ⟨s.ex, s.own, s.mu, s.fr, s.nd, fun ψ m => by
    rcases List.mem_append.mp m with m | m
    · exact s.ps ψ m
    · rw [List.mem_singleton.mp m]; exact h, fun ψ m => by
    rcases List.mem_append.mp m with m | m
    · exact s.pp ψ m
    · rw [List.mem_singleton.mp m]; exact k, s.tk⟩
/-- a new object of one's own, made by a call that keeps all -/
theorem Stt.fresh (s : Stt B H0 L P H) {p : Addr} {o : HO} (hp : H p = none) (e : Same H H') (h : H' p = some o) (m : isMut o) : Stt B H0 (L ++ [(p, o)]) P H' := by
  have s' := s.ext e
  refine ⟨s'.ex, fun q hq => ?_, fun q hq => ?_, fun q hq => ?_, ?_, s'.ps, s.pp, s'.tk⟩
  · rcases List.mem_append.mp hq with hq | hq
    · exact s'.own q hq
    · rw [List.mem_singleton.mp hq]; exact h
  · rcases List.mem_append.mp hq with hq | hq
    · exact s.mu q hq
    · rw [List.mem_singleton.mp hq]; exact m
  · rcases List.mem_append.mp hq with hq | hq
    · exact s.fr q hq
    · rw [List.mem_singleton.mp hq]
      by_cases hb : p ∈ B
      · exact .inr hb
      · left
        show H0 p = none
        cases q : H0 p with
        | none => rfl
        | some u =>
          have := s.ex p u hb q
          rw [hp] at this
          cases this
  · rw [List.map_append]
    refine List.nodup_append.mpr ⟨s.nd, by simp, ?_⟩
    intro a ha b hb
    have eb : b = p := by simpa using hb
    subst eb
    obtain ⟨q, hq, rfl⟩ := List.mem_map.mp ha
    intro e
    have := s.own q hq
    rw [e, hp] at this
    cases this
theorem Stt.new (s : Stt B H0 L P H) {p : Addr} {o : HO} (hp : H p = none) (m : isMut o) : Stt B H0 (L ++ [(p, o)]) P (upd H p o) := s.fresh hp (Same.new hp) upd_same m
/-- a new tuple -/
theorem Stt.newT (K : PySem.W.Frag) (s : Stt B H0 L P H) {p : Addr} {xs : List V} (hp : H p = none) : Stt B H0 L (P ++ [fun H => TupAt K H p xs]) (upd H p (.tup xs)) :=
  (s.ext (Same.new hp)).know (.inl upd_same) Pers.tup
/-- objects of one's own changed -/
theorem Stt.upds {L1 L1' L2 : List (Addr × HO)} (s : Stt B H0 (L1 ++ L2) P H) (en : L1'.map (·.1) = L1.map (·.1)) (e : ExB (L1.map (·.1)) H H') (n : ∀ p ∈ L1', H' p.1 = some p.2) (m : ∀ p ∈ L1', isMut p.2) : Stt B H0 (L1' ++ L2) P H' := by
  have inL : ∀ {a}, a ∈ L1.map (·.1) → ∃ o, H a = some o ∧ isMut o := fun {a} ha => by
    obtain ⟨q, hq, rfl⟩ := List.mem_map.mp ha
    exact ⟨q.2, s.own q (List.mem_append_left _ hq), s.mu q (List.mem_append_left _ hq)⟩
  have nd := s.nd
  rw [List.map_append] at nd
  have t : TK H H' := fun a xs h => e a _ (fun z => by
    obtain ⟨o, h1, h2⟩ := inL z
    rw [h] at h1
    cases h1
    exact h2) h
  refine ⟨fun a o hb h => ?_, fun q hq => ?_, fun q hq => ?_, fun q hq => ?_, ?_, Stt.tk_ps s.pp s.ps t, s.pp, s.tk.trans t⟩
  · refine e a o (fun z => ?_) (s.ex a o hb h)
    obtain ⟨q, hq, rfl⟩ := List.mem_map.mp z
    rcases s.fr q (List.mem_append_left _ hq) with f | f
    · rw [f] at h; cases h
    · exact hb f
  · rcases List.mem_append.mp hq with hq | hq
    · exact n q hq
    · refine e _ _ (fun z => ?_) (s.own q (List.mem_append_right _ hq))
      exact (List.nodup_append.mp nd).2.2 q.1 z q.1 (List.mem_map_of_mem hq) rfl
  · rcases List.mem_append.mp hq with hq | hq
    · exact m q hq
    · exact s.mu q (List.mem_append_right _ hq)
  · rcases List.mem_append.mp hq with hq | hq
    · have : q.1 ∈ L1.map (·.1) := by rw [← en]; exact List.mem_map_of_mem hq
      obtain ⟨q', hq', e'⟩ := List.mem_map.mp this
      have := s.fr q' (List.mem_append_left _ hq')
      rw [e'] at this
      exact this
    · exact s.fr q (List.mem_append_right _ hq)
  · rw [List.map_append, en]
    exact nd
/-- the k-th object of one's own changed -/
theorem Stt.set (s : Stt B H0 L P H) (k : Nat) {l : Addr} {o o' : HO} (h : L[k]? = some (l, o)) (m : isMut o') : Stt B H0 (L.set k (l, o')) P (upd H l o') := by
  have hk : k < L.length := (List.getElem?_eq_some_iff.mp h).1
  have em : (L.set k (l, o')).map (·.1) = L.map (·.1) := by
    rw [List.map_set]
    refine List.ext_getElem? fun j => ?_
    by_cases hj : k = j
    · subst hj
      rw [List.getElem?_set_self (by simpa using hk), List.getElem?_map, h]
      rfl
    · rw [List.getElem?_set_ne hj]
  have hne : ∀ j q, j ≠ k → L[j]? = some q → q.1 ≠ l := fun j q hj hq e => by
    have a1 : (L.map (·.1))[j]? = some l := by rw [List.getElem?_map, hq, ← e]; rfl
    have a2 : (L.map (·.1))[k]? = some l := by rw [List.getElem?_map, h]; rfl
    exact hj (nd_ix s.nd a1 a2)
  have hl := s.at k h
  have ml := s.mu (l, o) (List.mem_of_getElem? h)
  have t : TK H (upd H l o') := fun a xs q => by
    have : a ≠ l := fun e => by
      subst e
      rw [hl] at q
      cases q
      exact ml
    rw [upd_ne this]
    exact q
  have cases' : ∀ q ∈ L.set k (l, o'), q = (l, o') ∨ (q ∈ L ∧ q.1 ≠ l) := fun q hq => by
    obtain ⟨j, hj⟩ := List.getElem?_of_mem hq
    by_cases e : k = j
    · subst e
      rw [List.getElem?_set_self hk] at hj
      exact .inl (Option.some.inj hj).symm
    · rw [List.getElem?_set_ne e] at hj
      exact .inr ⟨List.mem_of_getElem? hj, hne j q (Ne.symm e) hj⟩
  refine ⟨fun a u hb q => ?_, fun q hq => ?_, fun q hq => ?_, fun q hq => ?_, by rw [em]; exact s.nd, Stt.tk_ps s.pp s.ps t, s.pp, s.tk.trans t⟩
  · have : a ≠ l := fun e => by
      subst e
      rcases s.fr _ (List.mem_of_getElem? h) with f | f
      · rw [f] at q; cases q
      · exact hb f
    rw [upd_ne this]
    exact s.ex a u hb q
  · rcases cases' q hq with e | ⟨m', ne⟩
    · rw [e]; exact upd_same
    · rw [upd_ne ne]; exact s.own q m'
  · rcases cases' q hq with e | ⟨m', ne⟩
    · rw [e]; exact m
    · exact s.mu q m'
  · rcases cases' q hq with e | ⟨m', ne⟩
    · rw [e]; exact s.fr (l, o) (List.mem_of_getElem? h)
    · exact s.fr q m'
theorem Stt.sqL (s : Stt B H0 L P H) (k : Nat) {a : Addr} {xs : List V} (h : L[k]? = some (a, .lst xs)) : SqL K H a xs := SqL.of (s.at k h)
theorem Stt.sqT (s : Stt B H0 L P H) (k : Nat) {a : Addr} {xs : List V} (h : P[k]? = some (fun H => TupAt K H a xs)) : SqT K H a xs := (s.pers k h).sq

theorem map_some_inj {α : Type} : ∀ {a b : List α}, a.map some = b.map some → a = b
  | [], [], _ => rfl
  | [], _ :: _, h => by simp at h
  | _ :: _, [], h => by simp at h
  | x :: a, y :: b, h => by
    simp only [List.map_cons, List.cons.injEq, Option.some.injEq] at h
    rw [h.1, map_some_inj h.2]
/-- some of one's own, by their places -/
theorem Stt.picks {L' : List (Addr × HO)} (s : Stt B H0 L P H) (ks : List Nat) (hk : ks.Nodup) (e : ks.map (fun k => L[k]?) = L'.map some) : Stt B H0 L' P H := by
  have sub : ∀ p ∈ L', p ∈ L := fun p hp => by
    have : some p ∈ L'.map some := List.mem_map_of_mem hp
    rw [← e] at this
    obtain ⟨k, _, hk⟩ := List.mem_map.mp this
    exact List.mem_of_getElem? hk
  refine ⟨s.ex, fun p h => s.own p (sub p h), fun p h => s.mu p (sub p h), fun p h => s.fr p (sub p h), ?_, s.ps, s.pp, s.tk⟩
  have key : ∀ (ks : List Nat) (L' : List (Addr × HO)), ks.Nodup → ks.map (fun k => L[k]?) = L'.map some → (L'.map (·.1)).Nodup := by
    intro ks
    induction ks with
    | nil =>
      intro L' _ e
      cases L' with
      | nil => simp
      | cons a b => simp at e
    | cons k ks ih =>
      intro L' hk e
      cases L' with
      | nil => simp at e
      | cons p L' =>
        simp only [List.map_cons, List.cons.injEq] at e
        obtain ⟨hk1, hk2⟩ := List.nodup_cons.mp hk
        refine List.nodup_cons.mpr ⟨fun m => ?_, ih L' hk2 e.2⟩
        obtain ⟨q, hq, eq⟩ := List.mem_map.mp m
        have : some q ∈ L'.map some := List.mem_map_of_mem hq
        rw [← e.2] at this
        obtain ⟨k', hk', eq'⟩ := List.mem_map.mp this
        have a1 : (L.map (·.1))[k]? = some p.1 := by rw [List.getElem?_map, e.1]; rfl
        have a2 : (L.map (·.1))[k']? = some p.1 := by
          have eq2 : q.1 = p.1 := eq
          rw [List.getElem?_map, eq', ← eq2]; rfl
        have := nd_ix s.nd a1 a2
        subst this
        exact hk1 hk'
  exact key ks L' hk e
/-- what is known no longer wanted -/
theorem Stt.only {P' : List (Hp → Prop)} (s : Stt B H0 L P H) (ks : List Nat) (e : ks.map (fun k => P[k]?) = P'.map some) : Stt B H0 L P' H := by
  have sub : ∀ p ∈ P', p ∈ P := fun p hp => by
    have : some p ∈ P'.map some := List.mem_map_of_mem hp
    rw [← e] at this
    obtain ⟨k, _, hk⟩ := List.mem_map.mp this
    exact List.mem_of_getElem? hk
  exact ⟨s.ex, s.own, s.mu, s.fr, s.nd, fun φ h => s.ps φ (sub φ h), fun φ h => s.pp φ (sub φ h), s.tk⟩
theorem Stt.forget (s : Stt B H0 L P H) : Stt B H0 L [] H := s.only [] rfl
/-- several new objects of one's own -/
theorem Stt.news (s : Stt B H0 L P H) {N : List (Addr × HO)} (h1 : ∀ p ∈ N, H p.1 = none) (e : Same H H') (h2 : ∀ p ∈ N, H' p.1 = some p.2) (m : ∀ p ∈ N, isMut p.2) (nd : (N.map (·.1)).Nodup) : Stt B H0 (L ++ N) P H' := by
  have s' := s.ext e
  refine ⟨s'.ex, fun q hq => ?_, fun q hq => ?_, fun q hq => ?_, ?_, s'.ps, s.pp, s'.tk⟩
  · rcases List.mem_append.mp hq with hq | hq
    · exact s'.own q hq
    · exact h2 q hq
  · rcases List.mem_append.mp hq with hq | hq
    · exact s.mu q hq
    · exact m q hq
  · rcases List.mem_append.mp hq with hq | hq
    · exact s.fr q hq
    · by_cases hb : q.1 ∈ B
      · exact .inr hb
      · left
        cases z : H0 q.1 with
        | none => rfl
        | some u =>
          have := s.ex q.1 u hb z
          rw [h1 q hq] at this
          cases this
  · rw [List.map_append]
    refine List.nodup_append.mpr ⟨s.nd, nd, ?_⟩
    intro a ha b hb
    obtain ⟨q, hq, rfl⟩ := List.mem_map.mp ha
    obtain ⟨q', hq', rfl⟩ := List.mem_map.mp hb
    intro e
    have := s.own q hq
    rw [e, h1 q' hq'] at this
    cases this
end

/-! ### one lemma a reading -/
section
variable {σ : St} {H : Hp} {D : Ends} {nx bk ct : St → Hp → Prop} {rt : VK} {Q : VK} {x y v : V} {ta tb tc te tx : TE} {t u : TS} {tr : TA} {r r' : R2} {K : PySem.W.Frag}
theorem i_seq (h : t ⟨u ⟨nx, rt, bk, ct⟩, rt, bk, ct⟩ σ H) : tSeq t u ⟨nx, rt, bk, ct⟩ σ H := h
theorem i_asg {g : TG} (h : te σ H fun x H1 => g x σ H1 nx) : tAsg te g ⟨nx, rt, bk, ct⟩ σ H := h
theorem i_name {i : Nat} {N : St → Hp → Prop} (h : N (σ.set i (some v)) H) : gName i v σ H N := h
theorem i_if {c : TT} (h : c σ H fun b H1 => if b = true then t D σ H1 else u D σ H1) : tIfS c t u D σ H := h
theorem i_ret (h : te σ H rt) : tRet te ⟨nx, rt, bk, ct⟩ σ H := h
theorem i_retN (h : rt .non H) : tRetN ⟨nx, rt, bk, ct⟩ σ H := h
theorem i_next (h : nx σ H) : tNext ⟨nx, rt, bk, ct⟩ σ H := h
theorem i_brk (h : bk σ H) : tBreak ⟨nx, rt, bk, ct⟩ σ H := h
theorem i_cont (h : ct σ H) : tCont ⟨nx, rt, bk, ct⟩ σ H := h
theorem i_drop (h : te σ H fun _ H1 => nx σ H1) : tDrop te ⟨nx, rt, bk, ct⟩ σ H := h
theorem i_var {i : Nat} (e : σ[i]? = some (some v)) (h : Q v H) : tVar i σ H Q := ⟨v, e, h⟩
theorem i_c (h : Q v H) : tC v σ H Q := h
theorem i_op (h : ta σ H fun x H1 => tb σ H1 fun y H2 => r x y H2 Q) : tOp r ta tb σ H Q := h
theorem i_un {r : V → Hp → VK → Prop} (h : ta σ H fun x H1 => r x H1 Q) : tUn r ta σ H Q := h
theorem i_I0 {g : Int → Int → V} {i j : Int} (h : Q (g i j) H) : rI0 g (.int i) (.int j) H Q := ⟨i, j, rfl, rfl, h⟩
theorem i_I {C : Int → Int → Prop} {g : Int → Int → V} {i j : Int} (c : C i j) (h : Q (g i j) H) : rI C g (.int i) (.int j) H Q := ⟨i, j, rfl, rfl, c, h⟩
theorem i_U {g : Int → V} {i : Int} (h : Q (g i) H) : rU g (.int i) H Q := ⟨i, rfl, h⟩
theorem i_eqI {i j : Int} (h : Q (.bl (decide (i = j))) H) : rEq (.int i) (.int j) H Q := ⟨rfl, by simpa using h⟩
theorem i_neI {i j : Int} (h : Q (.bl (!decide (i = j))) H) : rNe (.int i) (.int j) H Q := ⟨rfl, by simpa using h⟩
theorem i_eqS {i j : Str} (h : Q (.bl (decide (i = j))) H) : rEq (.str i) (.str j) H Q := ⟨rfl, by simpa using h⟩
theorem i_neS {i j : Str} (h : Q (.bl (!decide (i = j))) H) : rNe (.str i) (.str j) H Q := ⟨rfl, by simpa using h⟩
theorem i_eqB {i j : Bool} (h : Q (.bl (decide (i = j))) H) : rEq (.bl i) (.bl j) H Q := ⟨rfl, by simpa using h⟩
theorem i_neB {i j : Bool} (h : Q (.bl (!decide (i = j))) H) : rNe (.bl i) (.bl j) H Q := ⟨rfl, by simpa using h⟩
theorem i_test {N : Bool → Hp → Prop} (h : te σ H fun x H' => ∃ k, x = .bl k ∧ N k H') : tTest te σ H N := h
theorem i_tB {N : Bool → Hp → Prop} (h : te σ H fun x H' => ∃ k, x = .bl k ∧ N k H') : tB te σ H N := h
theorem i_bl {b : Bool} {N : Bool → Prop} (h : N b) : ∃ k, V.bl b = V.bl k ∧ N k := ⟨b, rfl, h⟩
theorem i_and {t1 t2 : TT} {N : Bool → Hp → Prop} (h : t1 σ H fun c H1 => if c = true then t2 σ H1 N else N false H1) : tAnd t1 t2 σ H N := h
theorem i_or {t1 t2 : TT} {N : Bool → Hp → Prop} (h : t1 σ H fun c H1 => if c = true then N true H1 else t2 σ H1 N) : tOr t1 t2 σ H N := h
theorem i_not {t1 : TT} {N : Bool → Hp → Prop} (h : t1 σ H fun c H1 => N (!c) H1) : tNot t1 σ H N := h
theorem i_andV (h : ta σ H fun x H1 => ∃ c, x = .bl c ∧ if c = true then tb σ H1 Q else Q (.bl false) H1) : tAndV ta tb σ H Q := h
theorem i_orV (h : ta σ H fun x H1 => ∃ c, x = .bl c ∧ if c = true then Q (.bl true) H1 else tb σ H1 Q) : tOrV ta tb σ H Q := h
theorem i_notV (h : ta σ H fun x H1 => ∃ c, x = .bl c ∧ Q (.bl (!c)) H1) : tNotV ta σ H Q := h
theorem i_ifE {c : TT} (h : c σ H fun b H1 => if b = true then ta σ H1 Q else tb σ H1 Q) : tIf c ta tb σ H Q := h
theorem i_chain (h : ta σ H fun x H1 => tb σ H1 fun y H2 => r x y H2 fun z H3 => ∃ k, z = .bl k ∧ (if k = true then tc σ H3 fun w' H4 => r' y w' H4 Q else Q (.bl false) H3)) : tChain r r' ta tb tc σ H Q := h
theorem i_nil {N : List V → Hp → Prop} (h : N [] H) : tNil σ H N := h
theorem i_cons {N : List V → Hp → Prop} (h : te σ H fun x H1 => tr σ H1 fun xs H2 => N (x :: xs) H2) : tCons te tr σ H N := h
theorem i_cb {r : List V → Hp → VK → Prop} (h : tr σ H fun vs H1 => r vs H1 Q) : tCB r tr σ H Q := h
theorem i_call {sp : Sp} {E : XK} (h : tr σ H fun vs H1 => sp vs H1 Q E) : tCall sp [] E tr σ H Q := by
  have e : (fun (vs : List V) H1 => sp (vs ++ []) H1 Q E) = fun vs H1 => sp vs H1 Q E := by
    funext vs H1
    rw [List.append_nil]
  show tr σ H fun vs H1 => sp (vs ++ []) H1 Q E
  rw [e]
  exact h
theorem i_tup (h : tr σ H fun xs H1 => xs.length ≤ sizeLine ∧ ∀ p, H1 p = none → Q (.ref p) (upd H1 p (.tup xs))) : tTup tr σ H Q := h
theorem i_lst (h : tr σ H fun xs H1 => xs.length ≤ sizeLine ∧ ∀ p, H1 p = none → Q (.ref p) (upd H1 p (.lst xs))) : tLst tr σ H Q := h
theorem i_ixL {p : Addr} {xs : List V} {i : Int} (h : SqL K H p xs) (e : atI xs i = some v) (q : Q v H) : rIxL K (.ref p) (.int i) H Q := ⟨p, xs, i, v, rfl, rfl, h, e, q⟩
theorem i_ixT {p : Addr} {xs : List V} {i : Int} (h : SqT K H p xs) (e : atI xs i = some v) (q : Q v H) : rIxT K (.ref p) (.int i) H Q := ⟨p, xs, i, v, rfl, rfl, h, e, q⟩
/-! len -/
def rLen (K : PySem.W.Frag) : List V → Hp → VK → Prop := fun xs H Q => ∃ x n, xs = [x] ∧ LenV K x H n ∧ Q (.int n) H
theorem f_len {X : Cx} : CallR X (.builtin "len") (rLen X.K) := call_len
theorem i_lenL {p : Addr} {xs : List V} (h : SqL K H p xs) (q : Q (.int (xs.length : Int)) H) : rLen K [.ref p] H Q := ⟨_, _, rfl, .inl ⟨xs, h, rfl⟩, q⟩
theorem i_lenT {p : Addr} {xs : List V} (h : SqT K H p xs) (q : Q (.int (xs.length : Int)) H) : rLen K [.ref p] H Q := ⟨_, _, rfl, .inr ⟨xs, h, rfl⟩, q⟩
theorem i_lenS {z : Str} (h : z.length ≤ sizeLine) (q : Q (.int (z.length : Int)) H) : rLen K [.str z] H Q := ⟨_, _, rfl, ⟨h, rfl⟩, q⟩
/-! isinstance(x, T), T one built-in class, x no instance -/
def rIsB (K : PySem.W.Frag) : List V → Hp → VK → Prop := fun xs H Q => ∃ (x : V) (a b : String) (k : Bool), xs = [x, .ty b] ∧ TyX K H x (.type a) ∧ kitB a b = some k ∧ Q (.bl k) H
theorem f_isi {X : Cx} : CallR X (.builtin "isinstance") (rIsB X.K) := fun pins s σ H xs us Q I r h => by
  obtain ⟨x, a, b, k, e, ty, kb, q⟩ := h
  exact call_isi pins s σ H xs us Q I r ⟨x, .ty b, .type a, .type b, k, e, .ty b, ty, kit_ty kb, q⟩
theorem i_isS {z : Str} {b : String} {k : Bool} (e : kitB "str" b = some k) (q : Q (.bl k) H) : rIsB K [.str z, .ty b] H Q := ⟨_, "str", b, k, rfl, .base (.str z), e, q⟩
theorem i_isI {i : Int} {b : String} {k : Bool} (e : kitB "int" b = some k) (q : Q (.bl k) H) : rIsB K [.int i, .ty b] H Q := ⟨_, "int", b, k, rfl, .base (.int i), e, q⟩
theorem i_isB {i : Bool} {b : String} {k : Bool} (e : kitB "bool" b = some k) (q : Q (.bl k) H) : rIsB K [.bl i, .ty b] H Q := ⟨_, "bool", b, k, rfl, .base (.bl i), e, q⟩
theorem i_isN {b : String} {k : Bool} (e : kitB "NoneType" b = some k) (q : Q (.bl k) H) : rIsB K [.non, .ty b] H Q := ⟨_, "NoneType", b, k, rfl, .base .non, e, q⟩
theorem ty_lst {a : Addr} {xs : List V} (h : SqL K H a xs) : TyX K H (.ref a) (.type "list") := by
  rcases h with (h | ⟨o, h⟩) | ⟨o, its, n, h, c, _⟩
  · exact .base (.lst h)
  · exact .base (.frz h)
  · exact .kList h c
theorem ty_tup {a : Addr} {xs : List V} (h : SqT K H a xs) : TyX K H (.ref a) (.type "tuple") := by
  rcases h with (h | ⟨o, h⟩) | ⟨o, its, n, h, c, _⟩
  · exact .base (.tup h)
  · exact .fTuple h
  · exact .kTuple h c
theorem i_isL {a : Addr} {xs : List V} {b : String} {k : Bool} (h : SqL K H a xs) (e : kitB "list" b = some k) (q : Q (.bl k) H) : rIsB K [.ref a, .ty b] H Q := ⟨_, "list", b, k, rfl, ty_lst h, e, q⟩
theorem i_isT {a : Addr} {xs : List V} {b : String} {k : Bool} (h : SqT K H a xs) (e : kitB "tuple" b = some k) (q : Q (.bl k) H) : rIsB K [.ref a, .ty b] H Q := ⟨_, "tuple", b, k, rfl, ty_tup h, e, q⟩
theorem i_isD {a : Addr} {kvs : List (Key × V)} {b : String} {k : Bool} (h : H a = some (.dK kvs)) (e : kitB "dict" b = some k) (q : Q (.bl k) H) : rIsB K [.ref a, .ty b] H Q := ⟨_, "dict", b, k, rfl, .base (.dK h), e, q⟩
/-! max, min of two; int of an int; abs -/
def rMax2 : List V → Hp → VK → Prop := fun xs H Q => ∃ i j, xs = [.int i, .int j] ∧ Q (.int (max i j)) H
def rMin2 : List V → Hp → VK → Prop := fun xs H Q => ∃ i j, xs = [.int i, .int j] ∧ Q (.int (min i j)) H
def rInt1 : List V → Hp → VK → Prop := fun xs H Q => ∃ i, xs = [.int i] ∧ Q (.int i) H
theorem f_max {X : Cx} (hc : X.calm = true) : CallR X (.builtin "max") rMax2 := fun pins s σ H xs us Q I r h => by
  obtain ⟨i, j, e, q⟩ := h
  refine call_max2 hc pins s σ H xs us Q I r ⟨i, j, e, ?_⟩
  have e2 : (if j > i then j else i) = max i j := by
    split <;> omega
  rw [e2]
  exact q
theorem f_min {X : Cx} (hc : X.calm = true) : CallR X (.builtin "min") rMin2 := fun pins s σ H xs us Q I r h => by
  obtain ⟨i, j, e, q⟩ := h
  refine call_min2 hc pins s σ H xs us Q I r ⟨i, j, e, ?_⟩
  have e2 : (if j < i then j else i) = min i j := by
    split <;> omega
  rw [e2]
  exact q
theorem f_int {X : Cx} : CallR X (.type "int") rInt1 := fun pins s σ H xs us Q I r h => by
  obtain ⟨i, e, q⟩ := h
  exact call_int1 pins s σ H xs us Q I r (.inl ⟨i, e, q⟩)
theorem i_max {i j : Int} (q : Q (.int (max i j)) H) : rMax2 [.int i, .int j] H Q := ⟨i, j, rfl, q⟩
theorem i_min {i j : Int} (q : Q (.int (min i j)) H) : rMin2 [.int i, .int j] H Q := ⟨i, j, rfl, q⟩
theorem i_int {i : Int} (q : Q (.int i) H) : rInt1 [.int i] H Q := ⟨i, rfl, q⟩
/-! targets that are tuples -/
theorem i_gtup {a : Addr} {xs : List V} {n : Nat} {g : TGs} {N : St → Hp → Prop} (h : SqT K H a xs) (e : xs.length = n) (q : g xs σ H N) : gTup K n g (.ref a) σ H N := ⟨a, xs, rfl, h, e, q⟩
theorem i_gcons {g : TG} {gs : TGs} {vs : List V} {N : St → Hp → Prop} (q : g v σ H fun σ' H' => gs vs σ' H' N) : gCons g gs (v :: vs) σ H N := ⟨v, vs, rfl, q⟩
theorem i_gnil {N : St → Hp → Prop} (q : N σ H) : gNil [] σ H N := ⟨rfl, q⟩
/-! loops and comprehensions: over a Walk -/
def ForIt (J : It) (g : TG) (tb : TS) (D : Ends) (σ : St) (H : Hp) : Prop := tFor (fun _ H R => R J H) g tb D σ H
theorem i_for {wi : TI} {g : TG} {tb : TS} (h : wi σ H fun J H1 => ForIt J g tb D σ H1) : tFor wi g tb D σ H := h
theorem ForIt.go {J : It} {n : Nat} {G : Hp → Prop} {Y : Nat → Hp → V → Hp → Prop} {g : TG} {tb : TS} (w : Walk J n G Y) (Pv : Nat → St → Hp → Prop) (h0 : Pv 0 σ H) (hG : ∀ i σ H, i ≤ n → Pv i σ H → G H)
    (hs : ∀ i x σ H H', i < n → Pv i σ H → Y i H x H' → g x σ H' fun σ2 H2 => tb ⟨Pv (i + 1), rt, nx, Pv (i + 1)⟩ σ2 H2) (hd : ∀ σ H, Pv n σ H → nx σ H) : ForIt J g tb ⟨nx, rt, bk, ct⟩ σ H :=
  for_it w (D := ⟨nx, rt, bk, ct⟩) Pv h0 hG hs hd
theorem i_pl {a : Addr} {xs : List V} {R : It → Hp → Prop} (h : SqL K H a xs) (q : R (Itl K a) H) : ∃ a', V.ref a = V.ref a' ∧ (∃ xs, SqL K H a' xs) ∧ R (Itl K a') H := ⟨a, rfl, ⟨xs, h⟩, q⟩
theorem i_iL {R : It → Hp → Prop} (h : te σ H fun x H1 => ∃ a, x = .ref a ∧ (∃ xs, SqL K H1 a xs) ∧ R (Itl K a) H1) : iList K te σ H R := h
theorem i_iT {R : It → Hp → Prop} (h : te σ H fun x H1 => ∃ a, x = .ref a ∧ (∃ xs, SqT K H1 a xs) ∧ R (Itt K a) H1) : iTup K te σ H R := h
theorem i_iR {R : It → Hp → Prop} (h : tr σ H fun vs H1 => ∃ j : Int, vs = [.int j] ∧ -(2 ^ 62) ≤ j ∧ j < 2 ^ 62 ∧ R (Itr 0 j.toNat) H1) : iRng1 tr σ H R := h
theorem i_iE {R : It → Hp → Prop} (h : tr σ H fun vs H1 => ∃ kd a xs, vs = [.ref a] ∧ SqB kd K H1 a xs ∧ R (ItE kd K a) H1) : iEnumB K tr σ H R := h
theorem i_iZ {R : It → Hp → Prop} (h : tr σ H fun vs H1 => ∃ k1 k2 a b xs ys, vs = [.ref a, .ref b] ∧ SqB k1 K H1 a xs ∧ SqB k2 K H1 b ys ∧ R (ItZ k1 k2 K a b) H1) : iZipB K tr σ H R := h
def LcIt (J : It) (g : TG) (tt : TT) (te : TE) (vs : List Nat) (σ : St) (H : Hp) (Q : VK) : Prop := tLc (fun _ H R => R J H) g tt te vs σ H Q
theorem i_lc {wi : TI} {g : TG} {tt : TT} {vs : List Nat} (h : wi σ H fun J H1 => LcIt J g tt te vs σ H1 Q) : tLc wi g tt te vs σ H Q := h
theorem LcIt.go {J : It} {n : Nat} {G : Hp → Prop} {Y : Nat → Hp → V → Hp → Prop} {g : TG} {tt : TT} {vs : List Nat} (w : Walk J n G Y) (Pv : Addr → Nat → Hp → Prop) (h0 : ∀ D, H D = none → Pv D 0 (upd H D (.lst []))) (hG : ∀ D i H, i ≤ n → Pv D i H → G H)
    (hs : ∀ D i x H H', i < n → Pv D i H → Y i H x H' → g x (wipe σ vs) H' fun σ2 H2 => wipe σ2 vs = wipe σ vs ∧ tt σ2 H2 fun b H3 =>
      if b = true then te σ2 H3 fun y H4 => ∃ acc, H4 D = some (.lst acc) ∧ acc.length < sizeLine ∧ Pv D (i + 1) (upd H4 D (.lst (acc ++ [y]))) else Pv D (i + 1) H3) (hd : ∀ D H', Pv D n H' → Q (.ref D) H') : LcIt J g tt te vs σ H Q :=
  fun D hD => lc_it w (Pv D) (h0 D hD) (hG D) (hs D) (hd D)
/-- a comprehension that makes the values that are told ahead, and changes nothing -/
theorem LcIt.map {J : It} {n : Nat} {G : Hp → Prop} {Y : Nat → Hp → V → Hp → Prop} {g : TG} {vs : List Nat} (w : Walk J n G Y) (ys : List V) (hn : ys.length = n) (hz : n < sizeLine) (hG : ∀ H', Same H H' → G H')
    (hs : ∀ i x y H1 H' (N : VK), i < n → ys[i]? = some y → Same H H1 → Y i H1 x H' → (∀ H4, Same H1 H4 → N y H4) → g x (wipe σ vs) H' fun σ2 H2 => wipe σ2 vs = wipe σ vs ∧ te σ2 H2 N)
    (hd : ∀ D H', H D = none → Same H H' → H' D = some (.lst ys) → Q (.ref D) H') : LcIt J g tYes te vs σ H Q := by
  refine LcIt.go w (fun D i H' => H D = none ∧ Same H H' ∧ H' D = some (.lst (ys.take i))) (fun D hD => ⟨hD, Same.new hD, by rw [upd_same]; rfl⟩) (fun D i H' _ p => hG H' p.2.1) ?_ (fun D H' p => hd D H' p.1 p.2.1 (by rw [p.2.2, List.take_of_length_le (by omega)]))
  intro D i x H1 H' hi p hy
  have hil : i < ys.length := by omega
  obtain ⟨p1, p2, p3⟩ := p
  exact hs i x (ys[i]) H1 H' _ hi (by simp [hil]) p2 hy fun H4 e4 => ⟨ys.take i, e4 _ _ p3, by rw [List.length_take]; omega, p1, (fun a o h => by
    rw [upd_ne (ne_of_none h p1)]
    exact e4 a o (p2 a o h)), by rw [upd_same, List.take_succ, List.getElem?_eq_getElem hil]; rfl⟩
end
end Fb

set_option maxHeartbeats 4000000
/-! defs by their names -/
namespace Fb
open PySem PySem.Spec PyProof.Rows L2
/-- a def of the module as the top leaves it -/
structure DefIn (K : PySem.W.Frag) (mg : Str → Option Value) (x qual : Str) (st : Stmt) : Prop where
  ex : ∃ f fd, Fun K x qual st f fd ∧ mg x = some (.ref f)
theorem DefIn.mk' {K : PySem.W.Frag} {h : Heap} {mg : Str → Option Value} {x qual : Str} {st : Stmt} (X : K.In h) (G : h.Ns mainGlobals mg) {f : Addr} {oc : Value} {od an : Option Addr} {osl : Array (Option Value)} {kV doc pm cdv ct : Value}
    (a : PySem.W.nsIn K mainGlobals x = some (some (.ref f)))
    (l : K.lookup f = some ⟨oc, od, .func (PySem.W.fnOf x qual (defArgs st) (defBody st) (defScope st) .none kV doc pm an cdv ct), osl⟩)
    (c : PySem.W.codeIn K cdv qual = true) (k : PySem.W.keepIn K (.ref f) = true) : DefIn K mg x qual st :=
  ⟨f, _, fun_mk l c k, PySem.W.mg_of X G a⟩
/-- a def that may be called by its name: it keeps the promise sp with room for k calls -/
structure Cal (P : Program) (w : World) (K : PySem.W.Frag) (mg : Str → Option Value) (base : Heap) (k : Nat) (x : Str) (sp : Sp) : Prop where
  ex : ∃ (f : Addr) (fd : FuncData) (ps : List Str), FnOk P w K mg base (L2.CX P w) k f fd ps sp ∧ mg x = some (.ref f) ∧ PySem.W.keepIn K (.ref f) = true ∧ Binds K fd ps []
section
variable {P : Program} {w : World} {K : PySem.W.Frag} {mg : Str → Option Value} {base : Heap}
theorem Cal.mono {j k : Nat} {x : Str} {sp : Sp} (c : Cal P w K mg base j x sp) (h : j ≤ k) : Cal P w K mg base k x sp := by
  obtain ⟨f, fd, ps, F, r⟩ := c.ex
  exact ⟨f, fd, ps, F.mono h, r⟩
theorem Cal.imp {k : Nat} {x : Str} {sp sp' : Sp} (c : Cal P w K mg base k x sp) (h : ∀ vs H Q E, sp' vs H Q E → sp vs H Q E) : Cal P w K mg base k x sp' := by
  obtain ⟨f, fd, ps, F, r⟩ := c.ex
  exact ⟨f, fd, ps, F.imp h, r⟩
/-- the law's own def, for the end -/
theorem fn_law {st : Stmt} {f : Addr} {fd : FuncData} {N : List Str} {x : Str} {k : Nat} {sp : Sp} (F : Fun K "law" "law" st f fd) (S : FnScope N [x] (defScope st)) (len : ∀ vs H Q E, sp vs H Q E → vs.length = 1)
    (hbody : ∀ (cdv : Value) (A : Around) (outer : List Env) (s : Shared) (H : Hp) (vs : List V) (Q : VK) (E : XK), Room k (A.deeper (envOfC "law" (defScope st) s.heap.objs.size f cdv)) → sp vs H Q E →
      ∃ t, PSs (cxOf (L2.CX P w) P w K mg base N "law" (defScope st) f cdv A outer s H E).nox (defBody st) t ∧ t { nx := fun _ H' => Q .non H', rt := Q } (start N vs) H) : FnOk P w K mg base (L2.CX P w) (k + 1) f fd [x] sp :=
  F.okX S len fun cdv A outer s H vs Q E hr h => by
    obtain ⟨t, p, q⟩ := hbody cdv A outer s H vs Q E hr h
    exact ⟨t, p.nox, q⟩
theorem fin_of {st : Stmt} {fa : Addr} {x : Str} {k : Nat} {sp : Sp} (D : DefIn K mg "law" "law" st) (h : mg "law" = some (.ref fa))
    (b : ∀ (kV doc pm : Value) (an : Option Addr) (cdv ct : Value) (us : List Value), us.length = 1 → bindArgs (PySem.W.fnOf "law" "law" (defArgs st) (defBody st) (defScope st) .none kV doc pm an cdv ct) ⟨us, []⟩ = pure ([x].zip us))
    (F : ∀ (base : Heap) (f : Addr) (fd : FuncData), Fun K "law" "law" st f fd → FnOk P w K mg base (L2.CX P w) k f fd [x] sp) :
    ∃ fd : FuncData, (∀ (s : Shared) (u : Value), BindsTo s fd ⟨[u], []⟩ [(x, u)]) ∧ ∀ base : Heap, K.In base → base.Ns mainGlobals mg → FnOk P w K mg base (L2.CX P w) k fa fd [x] sp := by
  obtain ⟨f, fd, Fu, hm⟩ := D.ex
  rw [h] at hm
  cases hm
  refine ⟨fd, fun s u => ?_, fun base _ _ => F base fa fd Fu⟩
  obtain ⟨oc, od, kV, doc, pm, an, cdv, ct, osl, rfl, lk, hcd⟩ := Fu.ex
  exact .of_eq (b kV doc pm an cdv ct [u] rfl)
/-- a def that raises nothing -/
theorem cal_of {x : Str} {st : Stmt} {N ps : List Str} {k : Nat} {sp : Sp} (D : DefIn K mg x x st) (S : FnScope N ps (defScope st))
    (b : ∀ (kV doc pm : Value) (an : Option Addr) (cdv ct : Value) (us : List Value), us.length = ps.length → bindArgs (PySem.W.fnOf x x (defArgs st) (defBody st) (defScope st) .none kV doc pm an cdv ct) ⟨us, []⟩ = pure (ps.zip us))
    (len : ∀ vs H Q E, sp vs H Q E → vs.length = ps.length)
    (hbody : ∀ (f : Addr) (cdv : Value) (A : Around) (outer : List Env) (s : Shared) (H : Hp) (vs : List V) (Q : VK) (E : XK), Room k (A.deeper (envOfC x (defScope st) s.heap.objs.size f cdv)) → sp vs H Q E →
      ∃ t, PSs (cxOf (L2.CX P w) P w K mg base N x (defScope st) f cdv A outer s H E).nox (defBody st) t ∧ t { nx := fun _ H' => Q .non H', rt := Q } (start N vs) H) : Cal P w K mg base (k + 1) x sp := by
  obtain ⟨f, fd, F, hm⟩ := D.ex
  exact ⟨f, fd, ps, F.okX S len (fun cdv A outer s H vs Q E hr h => by
    obtain ⟨t, p, q⟩ := hbody f cdv A outer s H vs Q E hr h
    exact ⟨t, p.nox, q⟩), hm, F.kp, F.binds b⟩
/-- a def that may raise -/
theorem cal_ofX {x : Str} {st : Stmt} {N ps : List Str} {k : Nat} {sp : Sp} (D : DefIn K mg x x st) (S : FnScope N ps (defScope st))
    (b : ∀ (kV doc pm : Value) (an : Option Addr) (cdv ct : Value) (us : List Value), us.length = ps.length → bindArgs (PySem.W.fnOf x x (defArgs st) (defBody st) (defScope st) .none kV doc pm an cdv ct) ⟨us, []⟩ = pure (ps.zip us))
    (len : ∀ vs H Q E, sp vs H Q E → vs.length = ps.length)
    (hbody : ∀ (f : Addr) (cdv : Value) (A : Around) (outer : List Env) (s : Shared) (H : Hp) (vs : List V) (Q : VK) (E : XK), Room k (A.deeper (envOfC x (defScope st) s.heap.objs.size f cdv)) → sp vs H Q E →
      ∃ t, PSs (cxOf (L2.CX P w) P w K mg base N x (defScope st) f cdv A outer s H E) (defBody st) t ∧ t { nx := fun _ H' => Q .non H', rt := Q } (start N vs) H) : Cal P w K mg base (k + 1) x sp := by
  obtain ⟨f, fd, F, hm⟩ := D.ex
  exact ⟨f, fd, ps, F.okX S len (hbody f), hm, F.kp, F.binds b⟩
end
section
variable {X : Cx} {k j : Nat} {x : Str} {sp : Sp} {p pos : Pos} {e : Expr} {es : List Expr} {t : TA}
theorem pc (c : Cal X.prog X.w X.K X.mg X.base k x sp) (hr : Room j X.A) (hk : k ≤ j) (ha : PA X (e :: es) t) (hg : Gl X x := by rfl)
    (hdb : (x == ("__debug__" : Str)) = false := by decide) (he : starEach (e :: es) X.env = (false, eval e X.env) :: starEach es X.env := by rfl) (hpl : (backTo pos (starEach es X.env)).any (·.1) = false := by rfl) :
    PE X (.Call (.Name x p) (e :: es) [] pos) (tCall sp [] E0 t) := by
  obtain ⟨f, fd, ps, F, hm, kp, b⟩ := c.ex
  exact pe_call F (hr.mono hk) hg hm kp b .nil passL ha hdb he hpl
/-- a list's item changed by an operator -/
theorem get_list : PGet X (rIxL X.K) := by
  intro pins s σ H o i ov iv Q I ro ri h
  obtain ⟨p, xs, i, z, rfl, rfl, hq, he, q⟩ := h
  cases ro
  obtain ⟨t, rfl⟩ := ri
  obtain ⟨its, r, pl, hz⟩ := I.list hq
  obtain ⟨j, h1, h2, h3, h4, h5⟩ := atI_get he
  obtain ⟨w, ew, rw'⟩ := r.get h2
  have hl := r.length
  have hn := line63
  have fin : EP X pins σ Q w s := ⟨z, H, I, rw', q⟩
  by_cases h0 : 0 ≤ i
  · have hj : i.toNat = j := by
      rw [seqIndex_of h0 h5] at h1
      exact Option.some.inj h1
    exact wpAny_getItem_list (x := w) pl.isList h0 (by omega) (by rw [hj]; simpa using ew) fin
  · have hj : (i + (its.toArray.size : Int)).toNat = j := by
      rw [seqIndex_neg (by omega) h4] at h1
      rw [List.size_toArray, ← hl]
      exact Option.some.inj h1
    exact wpAny_getItem_list_neg (x := w) pl.isList (by omega) (by rw [List.size_toArray] <;> omega) (by omega) (by rw [hj]; simpa using ew) fin
end
theorem i_augS {σ : L2.St} {H : Hp} {nx bk ct : L2.St → Hp → Prop} {rt : VK} {to ti te : TE} {tget : V → V → Hp → VK → Prop} {tip : TIp} {tset : TSet} (h : to σ H fun o H1 => ti σ H1 fun i H2 => tget o i H2 fun x H3 => te σ H3 fun y H4 => tip x y H4 fun z H5 => tset o i z H5 fun H6 => nx σ H6) : tAugS to ti te tget tip tset ⟨nx, rt, bk, ct⟩ σ H := h
theorem i_ipI {f : Int → Int → Int} {i j : Int} {H : Hp} {Q : VK} (h : Q (.int (f i j)) H) : ipI f (.int i) (.int j) H Q := ⟨i, j, rfl, rfl, h⟩
theorem i_setL {p : Addr} {xs : List V} {k : Int} {j : Nat} {v : V} {H : Hp} {N : Hp → Prop} (h : H p = some (.lst xs)) (e : ixN xs.length k = some j) (q : N (upd H p (.lst (xs.set j v)))) : rSetL (.ref p) (.int k) v H N := ⟨p, xs, k, j, rfl, rfl, h, e, q⟩
theorem i_aug {i : Nat} {te : TE} {ti : TIp} {x : V} {σ : L2.St} {H : Hp} {nx bk ct : L2.St → Hp → Prop} {rt : VK} (e : σ[i]? = some (some x)) (h : te σ H fun y H1 => ti x y H1 fun z H2 => nx (σ.set i (some z)) H2) : tAug i te ti ⟨nx, rt, bk, ct⟩ σ H := ⟨x, e, h⟩
end Fb

set_option maxHeartbeats 4000000
/-! steps that change the heap, over the state of a walk -/
namespace Fb
open PySem PySem.Spec PyProof.Rows L2
section
variable {K : PySem.W.Frag} {B : List Addr} {H0 H : Hp} {L : List (Addr × HO)} {P : List (Hp → Prop)} {Q : VK} {σ : L2.St} {te : TE} {tr : TA}
theorem sz_of {n : Nat} (h : n ≤ 100000) : n ≤ sizeLine := Nat.le_trans h (by decide)
theorem sz_lt {n : Nat} (h : n < 100000) : n < sizeLine := Nat.lt_of_lt_of_le h (by decide)
theorem st_newL (s : Stt B H0 L P H) {xs : List V} {R : Addr → Prop} (hz : xs.length ≤ 100000) (k : ∀ p, H p = none → Stt B H0 (L ++ [(p, .lst xs)]) P (upd H p (.lst xs)) → R p) : xs.length ≤ sizeLine ∧ ∀ p, H p = none → R p :=
  ⟨sz_of hz, fun p hp => k p hp (s.new hp trivial)⟩
theorem st_newT (K : PySem.W.Frag) (s : Stt B H0 L P H) {xs : List V} {R : Addr → Prop} (hz : xs.length ≤ 100000) (k : ∀ p, H p = none → Stt B H0 L (P ++ [fun H => TupAt K H p xs]) (upd H p (.tup xs)) → R p) : xs.length ≤ sizeLine ∧ ∀ p, H p = none → R p :=
  ⟨sz_of hz, fun p hp => k p hp (s.newT K hp)⟩
theorem st_new (s : Stt B H0 L P H) {o : HO} {N : Addr → Hp → Prop} (m : isMut o) (k : ∀ p H', H p = none → Same H H' → Stt B H0 (L ++ [(p, o)]) P H' → N p H') : ∀ p, H p = none → N p (upd H p o) :=
  fun p hp => k p _ hp (Same.new hp) (s.new hp m)
theorem st_cat (s : Stt B H0 L P H) {l b : Addr} {xs zs : List V} (h1 : H l = some (.lst xs)) (h2 : H b = some (.lst zs)) (hz : xs.length + zs.length ≤ 100000) (k : ∀ p H', H p = none → Same H H' → Stt B H0 (L ++ [(p, .lst (xs ++ zs))]) P H' → Q (.ref p) H') : rCat (.ref l) (.ref b) H Q :=
  ⟨l, b, xs, zs, rfl, rfl, h1, h2, sz_of hz, st_new s trivial k⟩
theorem st_rep (s : Stt B H0 L P H) {l : Addr} {x : V} {n : Int} (h1 : H l = some (.lst [x])) (hn : n ≤ 100000) (hm : -100000 ≤ n) (k : ∀ p H', H p = none → Same H H' → Stt B H0 (L ++ [(p, .lst (List.replicate n.toNat x))]) P H' → Q (.ref p) H') : rRep (.ref l) (.int n) H Q := by
  have e : (List.replicate n.toNat [x]).flatten = List.replicate n.toNat x := by
    generalize n.toNat = m
    induction m with
    | zero => rfl
    | succ m ih => rw [List.replicate_succ, List.flatten_cons, ih]; rfl
  refine ⟨l, n, [x], rfl, rfl, h1, by omega, by omega, sz_of (by simp; omega), ?_⟩
  rw [e]
  exact st_new s trivial k
theorem i_bm {T : String} {r : V → List V → Hp → VK → Prop} (h : te σ H fun x H1 => tyV K T x H1 ∧ tr σ H1 fun xs H2 => r x xs H2 Q) : tBM K T r te tr σ H Q := h
theorem i_bm0 {T : String} {r : V → List V → Hp → VK → Prop} (h : te σ H fun x H1 => tyV K T x H1 ∧ r x [] H1 Q) : tBM0 K T r te σ H Q := h
theorem i_tyL {a : Addr} {xs : List V} {N : Prop} (h : SqL K H a xs) (n : N) : tyV K "list" (.ref a) H ∧ N := ⟨.inl ⟨rfl, xs, h⟩, n⟩
theorem st_append (s : Stt B H0 L P H) (i : Nat) {l : Addr} {xs : List V} {y : V} (e : L[i]? = some (l, .lst xs)) (hz : xs.length < 100000) (k : ∀ H', Stt B H0 (L.set i (l, .lst (xs ++ [y]))) P H' → Q .non H') : rAppend (.ref l) [y] H Q :=
  ⟨l, xs, y, rfl, rfl, s.at i e, sz_lt hz, k _ (s.set i e trivial)⟩
theorem st_extend (s : Stt B H0 L P H) (i : Nat) {l b : Addr} {xs zs : List V} (e : L[i]? = some (l, .lst xs)) (h : H b = some (.lst zs)) (hz : xs.length + zs.length ≤ 100000) (k : ∀ H', Stt B H0 (L.set i (l, .lst (xs ++ zs))) P H' → Q .non H') : rExtend (.ref l) [.ref b] H Q :=
  ⟨l, b, xs, zs, rfl, rfl, s.at i e, h, sz_of hz, k _ (s.set i e trivial)⟩
theorem st_setL (s : Stt B H0 L P H) (i : Nat) {l : Addr} {xs : List V} {n : Int} {j : Nat} {v : V} {N : Hp → Prop} (e : L[i]? = some (l, .lst xs)) (hj : ixN xs.length n = some j) (k : ∀ H', Stt B H0 (L.set i (l, .lst (xs.set j v))) P H' → N H') : rSetL (.ref l) (.int n) v H N :=
  ⟨l, xs, n, j, rfl, rfl, s.at i e, hj, k _ (s.set i e trivial)⟩
theorem ixN_nat {n : Nat} {i : Int} (h0 : 0 ≤ i) (h : i < n) : ixN n i = some i.toNat := by
  unfold ixN
  rw [if_pos h0, if_pos h]
theorem atI_int {α : Type} {xs : List α} {i : Int} {v : α} (h0 : 0 ≤ i) (h : xs[i.toNat]? = some v) : atI xs i = some v := by
  have hl : i.toNat < xs.length := (List.getElem?_eq_some_iff.mp h).1
  unfold atI
  rw [ixN_nat h0 (by omega)]
  exact h
theorem sqBT {a : Addr} {xs : List V} (h : SqT K H a xs) : SqB false K H a xs := h
theorem sqBL {a : Addr} {xs : List V} (h : SqL K H a xs) : SqB true K H a xs := h
theorem i_all {a : Addr} {bs : List Bool} (h : SqL K H a (bs.map V.bl)) (q : Q (.bl (bs.all id)) H) : rAll K [.ref a] H Q := ⟨a, bs, rfl, h, q⟩
theorem i_any {a : Addr} {bs : List Bool} (h : SqL K H a (bs.map V.bl)) (q : Q (.bl (bs.any id)) H) : rAny K [.ref a] H Q := ⟨a, bs, rfl, h, q⟩
theorem i_sum {a : Addr} {ns : List Int} (h : SqL K H a (ns.map V.int)) (q : Q (.int ns.sum) H) : rSum K [.ref a] H Q := ⟨a, ns, rfl, h, q⟩
/-- one sign in a text -/
def rInC : R2 := fun x y H Q => ∃ (c : Nat) (z : Str), x = .str ⟨#[c]⟩ ∧ y = .str z ∧ Q (.bl (decide (c ∈ z.cps.toList))) H
theorem op_inC {X : Cx} : OpR X (compareOp .In) rInC := op_in_sign
theorem i_inC {c : Nat} {z : Str} (q : Q (.bl (decide (c ∈ z.cps.toList))) H) : rInC (.str ⟨#[c]⟩) (.str z) H Q := ⟨c, z, rfl, rfl, q⟩
theorem i_iS {R : It → Hp → Prop} (h : te σ H fun v H1 => ∃ x, v = .str x ∧ R (Its x) H1) : iStr te σ H R := h
/-- len(set(xs)), no int twice -/
theorem i_lenSet (h : te σ H fun x H1 => ∃ (l : Addr) (ns : List Int), x = .ref l ∧ SqL K H1 l (ns.map V.int) ∧ ns.Nodup ∧ ns.length ≤ 4000 ∧ Q (.int (ns.length : Nat)) H1) : RZ.tLenSetI K te σ H Q := h
/-- list(x), tuple(x) -/
def rList (K : PySem.W.Frag) : List V → Hp → VK → Prop := fun xs H Q => ∃ p ys, xs = [.ref p] ∧ (SqL K H p ys ∨ SqT K H p ys) ∧ ∀ l, H l = none → Q (.ref l) (upd H l (.lst ys))
theorem f_list {X : Cx} : CallR X (.type "list") (rList X.K) := call_list_of
def rTuple (K : PySem.W.Frag) : List V → Hp → VK → Prop := fun xs H Q => ∃ p ys, xs = [.ref p] ∧ ((SqL K H p ys ∧ ∀ l, H l = none → Q (.ref l) (upd H l (.tup ys))) ∨ (SqT K H p ys ∧ Q (.ref p) H))
theorem f_tuple {X : Cx} : CallR X (.type "tuple") (rTuple X.K) := call_tuple_of
theorem st_list (s : Stt B H0 L P H) {p : Addr} {ys : List V} (h : SqL K H p ys ∨ SqT K H p ys) (k : ∀ l H', H l = none → Stt B H0 (L ++ [(l, .lst ys)]) P H' → Q (.ref l) H') : rList K [.ref p] H Q := ⟨p, ys, rfl, h, fun l hl => k l _ hl (s.new hl trivial)⟩
theorem st_tupleL (s : Stt B H0 L P H) {p : Addr} {ys : List V} (h : SqL K H p ys) (k : ∀ l H', H l = none → Stt B H0 L (P ++ [fun H => TupAt K H l ys]) H' → Q (.ref l) H') : rTuple K [.ref p] H Q := ⟨p, ys, rfl, .inl ⟨h, fun l hl => k l _ hl (s.newT K hl)⟩⟩
/-! the rules whose reading bears K, with K told (within a comprehension's block no other way is open) -/
section
variable {X : Cx} {e : Expr} {es : List Expr} {pos : Pos} {tg : Expr} {f : Str}
theorem k_len (h : X.K = K) : CallR X (.builtin "len") (rLen K) := h ▸ f_len
theorem k_isi (h : X.K = K) : CallR X (.builtin "isinstance") (rIsB K) := h ▸ f_isi
theorem k_list (h : X.K = K) : CallR X (.type "list") (rList K) := h ▸ f_list
theorem k_tuple (h : X.K = K) : CallR X (.type "tuple") (rTuple K) := h ▸ f_tuple
theorem k_all (h : X.K = K) (hc : X.calm = true) : CallR X (.builtin "all") (rAll K) := h ▸ cr_all hc
theorem k_any (h : X.K = K) (hc : X.calm = true) : CallR X (.builtin "any") (rAny K) := h ▸ cr_any hc
theorem k_sum (h : X.K = K) (hc : X.calm = true) : CallR X (.builtin "sum") (rSum K) := h ▸ cr_sum hc
theorem k_ixL (h : X.K = K) : IxR X (rIxL K) := h ▸ ix_list
theorem k_ixT (h : X.K = K) : IxR X (rIxT K) := h ▸ ix_tup
theorem k_eqD (h : X.K = K) (hu : X.A.units + 64 < cLine) : OpR X (compareOp .Eq) (rEqD K) := h ▸ op_eqD hu
theorem k_neD (h : X.K = K) (hu : X.A.units + 64 < cLine) : OpR X (compareOp .NotEq) (rNeD K) := h ▸ op_neD hu
theorem k_in (h : X.K = K) : OpR X (compareOp .In) (rIn K false) := h ▸ op_in_seq
theorem k_nin (h : X.K = K) : OpR X (compareOp .NotIn) (rIn K true) := h ▸ op_notIn_seq
theorem k_fld (h : X.K = K) (he : PE X e te) (hb : attributeBase e f X.env (eval e X.env) = eval e X.env) : PE X (.Attribute e f pos) (tFld K te f) := h ▸ pe_fld he hb
theorem k_pl (h : X.K = K) (he : PE X e te) : PI X tg e (iList K te) := h ▸ pi_list he
theorem k_pt (h : X.K = K) (he : PE X e te) : PI X tg e (iTup K te) := h ▸ pi_tup he
theorem k_tg {n : Nat} {k : Nat} {t : TGs} (h : X.K = K) (hc : X.calm = true) (p : PGs X es t) (hn : (assignEach es X.env).length = n := by rfl) (hst : (assignEach es X.env).findIdx? (·.1) = none := by rfl) : PG X (.Tuple es k pos) (gTup K n t) := h ▸ pg_tup hc p hn hst
theorem k_enum {elts : List Expr} {kk : Nat} {tpos p : Pos} (h : X.K = K) (hg : Gl X "enumerate") (hm : X.mg "enumerate" = none) (ha : PA X [e] tr) (hs : starEach [e] X.env = [(false, eval e X.env)] := by rfl) : PI X (.Tuple elts kk tpos) (.Call (.Name "enumerate" p) [e] [] pos) (iEnumB K tr) := h ▸ pi_enumB hg hm ha hs
theorem k_zip {e2 : Expr} {elts : List Expr} {kk : Nat} {tpos p : Pos} (h : X.K = K) (hg : Gl X "zip") (hm : X.mg "zip" = none) (ha : PA X [e, e2] tr) (hs : starEach [e, e2] X.env = (false, eval e X.env) :: starEach [e2] X.env := by rfl) (hpl : (backTo pos (starEach [e2] X.env)).any (·.1) = false := by rfl) : PI X (.Tuple elts kk tpos) (.Call (.Name "zip" p) [e, e2] [] pos) (iZipB K tr) := h ▸ pi_zipB hg hm ha hs hpl
end
theorem atI_mem {α : Type} {xs : List α} {i : Int} (h0 : 0 ≤ i) (h : i < xs.length) : ∃ v, atI xs i = some v ∧ v ∈ xs := by
  have hl : i.toNat < xs.length := by omega
  exact ⟨xs[i.toNat], atI_int h0 (List.getElem?_eq_getElem hl), List.getElem_mem hl⟩
theorem i_gsub {to ti : TE} {t : TSet} {v : V} {N : L2.St → Hp → Prop} (h : to σ H fun o H1 => ti σ H1 fun i H2 => t o i v H2 fun H3 => N σ H3) : gSub to ti t v σ H N := h
theorem i_is {x : V} {a b : String} {k : Bool} (h : TyX K H x (.type a)) (e : kitB a b = some k) (q : Q (.bl k) H) : rIsB K [x, .ty b] H Q := ⟨x, a, b, k, rfl, h, e, q⟩
/-- isinstance(x, (S, T)), the tuple just made -/
def rIsB2 (K : PySem.W.Frag) : List V → Hp → VK → Prop := fun xs H Q => ∃ (x : V) (tp : Addr) (a b1 b2 : String) (k1 k2 : Bool), xs = [x, .ref tp] ∧ H tp = some (.tup [.ty b1, .ty b2]) ∧ TyX K H x (.type a) ∧ kitB a b1 = some k1 ∧ kitB a b2 = some k2 ∧ Q (.bl (k1 || k2)) H
theorem k_isi2 {X : Cx} (hk : X.K = K) : CallR X (.builtin "isinstance") (rIsB2 K) := fun pins s σ H xs us Q I r h => by
  obtain ⟨x, tp, a, b1, b2, k1, k2, e, ht, ty, e1, e2, q⟩ := h
  subst hk
  refine call_isiT pins s σ H xs us Q I r ⟨x, tp, _, .type a, [.type b1, .type b2], k1 || k2, e, ht, .cons (.ty b1) (.cons (.ty b2) .nil), ty, ?_, q⟩
  refine kitAny_cons (kit_ty e1) (fun h1 => ?_) (fun h1 => by rw [h1]; rfl)
  rw [h1]
  exact kitAny_cons (kit_ty e2) (fun h2 => by rw [h2]; exact kitAny_nil) (fun h2 => by rw [h2]; rfl)
theorem i_is2 {x : V} {tp : Addr} {a b1 b2 : String} {k1 k2 : Bool} (ht : H tp = some (.tup [.ty b1, .ty b2])) (h : TyX K H x (.type a)) (e1 : kitB a b1 = some k1) (e2 : kitB a b2 = some k2) (q : Q (.bl (k1 || k2)) H) : rIsB2 K [x, .ref tp] H Q := ⟨x, tp, a, b1, b2, k1, k2, rfl, ht, h, e1, e2, q⟩
/-- == of scalars, or of equal data with dicts -/
def rEqU (K : PySem.W.Frag) : R2 := fun x y H Q => rEq x y H Q ∨ rEqV K x y H Q
theorem k_eqU {X : Cx} (hk : X.K = K) (hu : X.A.units + 64 < cLine) : OpR X (compareOp .Eq) (rEqU K) := hk ▸ op_eq.or (op_eqV hu)
theorem k_ix {X : Cx} (hk : X.K = K) : IxR X (rIx K) := hk ▸ ix_seq
theorem i_ixB {kd : Bool} {a : Addr} {xs : List V} {i : Int} {v : V} (h : SqB kd K H a xs) (e : atI xs i = some v) (q : Q v H) : rIx K (.ref a) (.int i) H Q := by
  cases kd
  · exact .inr (.inl ⟨a, xs, i, v, rfl, rfl, h, e, q⟩)
  · exact .inl ⟨a, xs, i, v, rfl, rfl, h, e, q⟩
theorem i_lenB {kd : Bool} {a : Addr} {xs : List V} (h : SqB kd K H a xs) (q : Q (.int (xs.length : Int)) H) : rLen K [.ref a] H Q := by
  cases kd
  · exact i_lenT h q
  · exact i_lenL h q
theorem ty_B {kd : Bool} {a : Addr} {xs : List V} (h : SqB kd K H a xs) : TyX K H (.ref a) (.type (if kd then "list" else "tuple")) := by
  cases kd
  · exact ty_tup h
  · exact ty_lst h
theorem SqB.seq {kd : Bool} {H' : Hp} {a : Addr} {xs : List V} (e : Same H H') (h : SqB kd K H a xs) : SqB kd K H' a xs := by
  cases kd
  · rcases (show SqT K H a xs from h) with (h | ⟨o, h⟩) | h
    · exact SqT.of (e _ _ h)
    · exact .inl (.inr ⟨o, e _ _ h⟩)
    · exact .inr h
  · exact e.seq h
/-- sorted(d), a dict of fewer than 64 text keys -/
def rSortD : List V → Hp → VK → Prop := fun xs H Q => ∃ (a : Addr) (kvs : List (Key × V)) (ks : List Str), xs = [.ref a] ∧ Rd H a (.dK kvs) ∧ kvs.map (·.1) = ks.map Sum.inr ∧ ks.length < 64 ∧
    ∀ ys p, ys.Perm ks → sortedS ys = true → H p = none → Q (.ref p) (upd H p (.lst (ys.map V.str)))
theorem f_sortD {X : Cx} (hc : X.calm = true) : CallR X (.builtin "sorted") rSortD := call_sortedD hc
theorem i_yes {N : Bool → Hp → Prop} (h : N true H) : tYes σ H N := h
theorem i_par {i j : Nat} {ta : TA} {nx bk ct : L2.St → Hp → Prop} {rt : VK} (h : ta σ H fun vs H1 => ∃ v w, vs = [v, w] ∧ nx ((σ.set i (some v)).set j (some w)) H1) : tPar i j ta ⟨nx, rt, bk, ct⟩ σ H := h
theorem i_par3 {i j l : Nat} {ta : TA} {nx bk ct : L2.St → Hp → Prop} {rt : VK} (h : ta σ H fun vs H1 => ∃ u v w, vs = [u, v, w] ∧ nx (((σ.set i (some u)).set j (some v)).set l (some w)) H1) : tPar3 i j l ta ⟨nx, rt, bk, ct⟩ σ H := h
theorem i_tupRg {te : L2.St → Hp → (Int → Int → Hp → Prop) → Prop} (h : te σ H fun a b H1 => RgOk a b ∧ ∀ q, H1 q = none → Q (.ref q) (upd H1 q (.tup (rgV a b)))) : tTupRg te σ H Q := h
/-! dicts with int and text keys -/
theorem i_dget {td ty : TE} (h : td σ H fun x H1 => ty σ H1 fun y H2 => ∃ a v, x = .ref a ∧ DGet H2 a y (some v) ∧ Q v H2) : tDGet td ty σ H Q := h
theorem i_din {td ty : TE} (h : ty σ H fun y H1 => td σ H1 fun x H2 => ∃ a o, x = .ref a ∧ DGet H2 a y o ∧ Q (.bl o.isSome) H2) : tDIn ty td σ H Q := h
theorem i_dnotin {td ty : TE} (h : ty σ H fun y H1 => td σ H1 fun x H2 => ∃ a o, x = .ref a ∧ DGet H2 a y o ∧ Q (.bl (!o.isSome)) H2) : tDNotIn ty td σ H Q := h
theorem i_dget2 {td ty tx : TE} (h : td σ H fun x H1 => ∃ a, x = .ref a ∧ IsD H1 a ∧ ty σ H1 fun y H2 => tx σ H2 fun z H3 => ∃ o, DGet H3 a y o ∧ Q (o.getD z) H3) : tDGet2 td ty tx σ H Q := h
theorem i_dput {td ty tv : TE} {nx bk ct : L2.St → Hp → Prop} {rt : VK} (h : tv σ H fun v H1 => td σ H1 fun x H2 => ty σ H2 fun y H3 => ∃ a H4, x = .ref a ∧ DPut H3 a y v H4 ∧ nx σ H4) : sDPut td ty tv ⟨nx, rt, bk, ct⟩ σ H := h
theorem st_dnew (s : Stt B H0 L P H) (k : ∀ p H', H p = none → Same H H' → Stt B H0 (L ++ [(p, .dK [])]) P H' → Q (.ref p) H') : tDNewK σ H Q := st_new s trivial k
theorem st_dput (s : Stt B H0 L P H) (i : Nat) {l : Addr} {kvs : List (Key × V)} {ky : Key} {v : V} {N : Hp → Prop} (e : L[i]? = some (l, .dK kvs)) (hz : kvs.length < 100000) (k : ∀ H', Stt B H0 (L.set i (l, .dK (putK kvs ky v))) P H' → N H') : ∃ a H4, V.ref l = .ref a ∧ DPut H a (kV ky) v H4 ∧ N H4 :=
  ⟨l, _, rfl, DPut.k (s.at i e) (sz_lt hz), k _ (s.set i e trivial)⟩
theorem st_dget {l : Addr} {kvs : List (Key × V)} {ky : Key} {N : Option V → Prop} (h : H l = some (.dK kvs)) (k : N (valV kvs ky)) : ∃ o, DGet H l (kV ky) o ∧ N o := ⟨_, DGet.k h, k⟩
end
end Fb

open PySem PySem.Spec PyProof.Rows L2 in
local macro_rules | `(tactic| walk_at "go1") => `(tactic| with_reducible first
  | refine Fb.i_seq ?_ | refine Fb.i_asg ?_ | refine Fb.i_name ?_ | refine Fb.i_if ?_ | refine Fb.i_ret ?_ | refine Fb.i_retN ?_ | refine Fb.i_next ?_ | refine Fb.i_drop ?_ | refine Fb.i_brk ?_ | refine Fb.i_cont ?_
  | (refine' Fb.i_var ?e ?_; (case e => with_unfolding_all exact rfl))
  | refine Fb.i_c ?_ | refine Fb.i_op ?_ | refine Fb.i_un ?_ | refine Fb.i_I0 ?_ | refine Fb.i_U ?_ | refine Fb.i_eqI ?_ | refine Fb.i_neI ?_ | refine Fb.i_eqS ?_ | refine Fb.i_neS ?_ | refine Fb.i_eqB ?_ | refine Fb.i_neB ?_
  | refine Fb.i_test ?_ | refine Fb.i_tB ?_ | refine Fb.i_bl ?_ | refine Fb.i_and ?_ | refine Fb.i_or ?_ | refine Fb.i_not ?_ | refine Fb.i_andV ?_ | refine Fb.i_orV ?_ | refine Fb.i_notV ?_ | refine Fb.i_ifE ?_ | refine Fb.i_chain ?_
  | refine Fb.i_nil ?_ | refine Fb.i_cons ?_ | refine Fb.i_cb ?_ | refine Fb.i_call ?_ | refine Fb.i_tup ?_ | refine Fb.i_lst ?_ | refine Fb.i_for ?_ | refine Fb.i_iL ?_ | refine Fb.i_iT ?_ | refine Fb.i_iR ?_ | refine Fb.i_iE ?_ | refine Fb.i_iS ?_ | refine Fb.i_inC ?_ | refine Fb.i_iZ ?_ | refine Fb.i_lc ?_ | refine Fb.i_lenSet ?_ | refine Fb.i_augS ?_ | refine Fb.i_ipI ?_
  | (refine' Fb.i_aug ?e ?_; (case e => with_unfolding_all exact rfl))
  | refine Fb.i_bm ?_ | refine Fb.i_bm0 ?_ | refine Fb.i_dget ?_ | refine Fb.i_din ?_ | refine Fb.i_dnotin ?_ | refine Fb.i_dget2 ?_ | refine Fb.i_dput ?_
  | refine Fb.i_max ?_ | refine Fb.i_min ?_ | refine Fb.i_int ?_ | refine Fb.i_gcons ?_ | refine Fb.i_gnil ?_ | refine Fb.i_gsub ?_ | refine Fb.i_yes ?_ | refine Fb.i_par ?_ | refine Fb.i_par3 ?_)
local macro_rules | `(tactic| walk_at "go") => `(tactic| repeat (first | walk_at "go1" | dsimp only [L2.kV]))
local macro_rules | `(tactic| walk_at "begin") => `(tactic| ((try (dsimp only [L2.cxOf, L2.Cx.nox, L2.Cx.wish, L2.Cx.blk])); walk_at "go"))
local macro_rules | `(tactic| walk_at "sq") => `(tactic| first
  | assumption
  | (refine' Fb.TupAt.sq (Fb.TupAt.keep (Fb.Stt.tk ?s) ?h); (case s => assumption); (case h => assumption))
  | (refine' L2.Same.seq (Fb.Stt.same ?s) ?h; (case s => assumption); (case h => assumption))
  | (refine' Fb.Stt.sqL ?s 0 ?e; (case s => assumption); (case e => exact rfl))
  | (refine' Fb.Stt.sqL ?s 1 ?e; (case s => assumption); (case e => exact rfl))
  | (refine' Fb.Stt.sqL ?s 2 ?e; (case s => assumption); (case e => exact rfl))
  | (refine' Fb.Stt.sqL ?s 3 ?e; (case s => assumption); (case e => exact rfl))
  | (refine' Fb.Stt.sqL ?s 4 ?e; (case s => assumption); (case e => exact rfl))
  | (refine' Fb.Stt.sqL ?s 5 ?e; (case s => assumption); (case e => exact rfl))
  | (refine' Fb.Stt.sqT ?s 0 ?e; (case s => assumption); (case e => exact rfl))
  | (refine' Fb.Stt.sqT ?s 1 ?e; (case s => assumption); (case e => exact rfl))
  | (refine' Fb.Stt.sqT ?s 2 ?e; (case s => assumption); (case e => exact rfl))
  | (refine' Fb.Stt.sqT ?s 3 ?e; (case s => assumption); (case e => exact rfl))
  | (refine' Fb.Stt.sqT ?s 4 ?e; (case s => assumption); (case e => exact rfl))
  | (refine' Fb.Stt.sqT ?s 5 ?e; (case s => assumption); (case e => exact rfl))
  | (refine' Fb.Stt.sqT ?s 6 ?e; (case s => assumption); (case e => exact rfl)))
local macro_rules | `(tactic| walk_at "at") => `(tactic| first
  | (refine' Fb.Stt.at ?s 0 ?e; (case s => assumption); (case e => exact rfl))
  | (refine' Fb.Stt.at ?s 1 ?e; (case s => assumption); (case e => exact rfl))
  | (refine' Fb.Stt.at ?s 2 ?e; (case s => assumption); (case e => exact rfl))
  | (refine' Fb.Stt.at ?s 3 ?e; (case s => assumption); (case e => exact rfl))
  | (refine' Fb.Stt.at ?s 4 ?e; (case s => assumption); (case e => exact rfl))
  | (refine' Fb.Stt.at ?s 5 ?e; (case s => assumption); (case e => exact rfl)))

/-! the text of the law, by places; what the top leaves -/
namespace Fb
open PySem PySem.Spec PyProof.Rows L2
def top (i : Nat) : Stmt := PySem.Challenge.pw_fullboats_k08_whole_counts_of_large_netw.main.body.getD i (.Pass ⟨0, 0, 0, 0⟩)
abbrev s_InvalidNetwork___init : Stmt := inClass (top 2) 0
abbrev s_is_port : Stmt := top 11
abbrev s_is_valid_place : Stmt := top 12
abbrev s_first_invalid_seat : Stmt := top 13
abbrev s_validate_network : Stmt := top 14
abbrev s_validate_count : Stmt := top 15
abbrev s_is_valid_state : Stmt := top 17
abbrev s_validate_state : Stmt := top 18
abbrev s_count_flow : Stmt := top 20
abbrev s_queue_lengths : Stmt := top 21
abbrev s_finished_by : Stmt := top 22
abbrev s_validate_all : Stmt := top 23
abbrev s_count_boats : Stmt := top 24
abbrev s_count_finished : Stmt := top 25
abbrev s_law_mix : Stmt := top 27
abbrev s_law_next : Stmt := top 28
abbrev s_law_alike : Stmt := top 29
abbrev s_law_place : Stmt := top 30
abbrev s_law_network : Stmt := top 31
abbrev s_law : Stmt := top 32
theorem sc_is_port : FnScope ["place"] ["place"] (defScope s_is_port) := ⟨rfl, rfl, rfl, by decide +kernel, rfl, by decide +kernel, by decide +kernel⟩
theorem sc_is_valid_place : FnScope ["network", "station", "place", "letter"] ["network", "station", "place"] (defScope s_is_valid_place) := ⟨rfl, rfl, rfl, by decide +kernel, rfl, by decide +kernel, by decide +kernel⟩
theorem sc_first_invalid_seat : FnScope ["network", "station", "seats", "seat", "place"] ["network", "station"] (defScope s_first_invalid_seat) := ⟨rfl, rfl, rfl, by decide +kernel, rfl, by decide +kernel, by decide +kernel⟩
theorem sc_validate_network : FnScope ["network", "station", "seat"] ["network"] (defScope s_validate_network) := ⟨rfl, rfl, rfl, by decide +kernel, rfl, by decide +kernel, by decide +kernel⟩
theorem sc_validate_count : FnScope ["count", "smallest", "largest"] ["count", "smallest", "largest"] (defScope s_validate_count) := ⟨rfl, rfl, rfl, by decide +kernel, rfl, by decide +kernel, by decide +kernel⟩
theorem sc_is_valid_state : FnScope ["network", "state", "next_passenger", "queues", "queue", "waiting", "seats", "passenger"] ["network", "state"] (defScope s_is_valid_state) := ⟨rfl, rfl, rfl, by decide +kernel, rfl, by decide +kernel, by decide +kernel⟩
theorem sc_validate_state : FnScope ["network", "state"] ["network", "state"] (defScope s_validate_state) := ⟨rfl, rfl, rfl, by decide +kernel, rfl, by decide +kernel, by decide +kernel⟩
theorem sc_count_flow : FnScope ["network", "lengths", "arrivals", "joined", "boats", "station", "seats", "departures", "place"] ["network", "lengths", "arrivals"] (defScope s_count_flow) := ⟨rfl, rfl, rfl, by decide +kernel, rfl, by decide +kernel, by decide +kernel⟩
theorem sc_queue_lengths : FnScope ["state", "queue"] ["state"] (defScope s_queue_lengths) := ⟨rfl, rfl, rfl, by decide +kernel, rfl, by decide +kernel, by decide +kernel⟩
theorem sc_finished_by : FnScope ["network", "boats", "counts", "departures", "seats", "place"] ["network", "boats"] (defScope s_finished_by) := ⟨rfl, rfl, rfl, by decide +kernel, rfl, by decide +kernel, by decide +kernel⟩
theorem sc_validate_all : FnScope ["network", "state"] ["network", "state"] (defScope s_validate_all) := ⟨rfl, rfl, rfl, by decide +kernel, rfl, by decide +kernel, by decide +kernel⟩
theorem sc_count_boats : FnScope ["network", "state", "count"] ["network", "state", "count"] (defScope s_count_boats) := ⟨rfl, rfl, rfl, by decide +kernel, rfl, by decide +kernel, by decide +kernel⟩
theorem sc_count_finished : FnScope ["network", "state", "count"] ["network", "state", "count"] (defScope s_count_finished) := ⟨rfl, rfl, rfl, by decide +kernel, rfl, by decide +kernel, by decide +kernel⟩
theorem sc_law_mix : FnScope ["_law_script", "_law_seed", "_law_mixed", "_law_cell"] ["_law_script", "_law_seed"] (defScope s_law_mix) := ⟨rfl, rfl, rfl, by decide +kernel, rfl, by decide +kernel, by decide +kernel⟩
theorem sc_law_next : FnScope ["_law_h", "_law_limit", "_law_cell"] ["_law_h", "_law_limit"] (defScope s_law_next) := ⟨rfl, rfl, rfl, by decide +kernel, rfl, by decide +kernel, by decide +kernel⟩
theorem sc_law_alike : FnScope ["_law_found", "_law_due", "_law_k"] ["_law_found", "_law_due"] (defScope s_law_alike) := ⟨rfl, rfl, rfl, by decide +kernel, rfl, by decide +kernel, by decide +kernel⟩
theorem sc_law_place : FnScope ["_law_h", "_law_station", "_law_count", "_law_far"] ["_law_h", "_law_station", "_law_count"] (defScope s_law_place) := ⟨rfl, rfl, rfl, by decide +kernel, rfl, by decide +kernel, by decide +kernel⟩
theorem sc_law_network : FnScope ["_law_h", "_law_most", "_law_count", "_law_network_here", "_law_station", "_law_seats", "_law_seat"] ["_law_h", "_law_most"] (defScope s_law_network) := ⟨rfl, rfl, rfl, by decide +kernel, rfl, by decide +kernel, by decide +kernel⟩
theorem sc_law : FnScope ["_law_script", "_law_h", "_law_turn", "_law_network_here", "_law_queues", "_law_number", "_law_seats", "_law_length", "_law_state", "_law_count", "_law_joined", "_law_boats", "_law_told", "_law_k", "_law_place_here"] ["_law_script"] (defScope s_law) := ⟨rfl, rfl, rfl, by decide +kernel, rfl, by decide +kernel, by decide +kernel⟩
structure All (K : PySem.W.Frag) (mg : Str → Option Value) : Prop where
  d_is_port : DefIn K mg "is_port" "is_port" s_is_port
  d_is_valid_place : DefIn K mg "is_valid_place" "is_valid_place" s_is_valid_place
  d_first_invalid_seat : DefIn K mg "first_invalid_seat" "first_invalid_seat" s_first_invalid_seat
  d_validate_network : DefIn K mg "validate_network" "validate_network" s_validate_network
  d_validate_count : DefIn K mg "validate_count" "validate_count" s_validate_count
  d_is_valid_state : DefIn K mg "is_valid_state" "is_valid_state" s_is_valid_state
  d_validate_state : DefIn K mg "validate_state" "validate_state" s_validate_state
  d_count_flow : DefIn K mg "count_flow" "count_flow" s_count_flow
  d_queue_lengths : DefIn K mg "queue_lengths" "queue_lengths" s_queue_lengths
  d_finished_by : DefIn K mg "finished_by" "finished_by" s_finished_by
  d_validate_all : DefIn K mg "validate_all" "validate_all" s_validate_all
  d_count_boats : DefIn K mg "count_boats" "count_boats" s_count_boats
  d_count_finished : DefIn K mg "count_finished" "count_finished" s_count_finished
  d_law_mix : DefIn K mg "_law_mix" "_law_mix" s_law_mix
  d_law_next : DefIn K mg "_law_next" "_law_next" s_law_next
  d_law_alike : DefIn K mg "_law_alike" "_law_alike" s_law_alike
  d_law_place : DefIn K mg "_law_place" "_law_place" s_law_place
  d_law_network : DefIn K mg "_law_network" "_law_network" s_law_network
  d_law : DefIn K mg "law" "law" s_law
  b_isinstance : mg "isinstance" = none
  b_str : mg "str" = none
  b_len : mg "len" = none
  b_all : mg "all" = none
  b_enumerate : mg "enumerate" = none
  b_range : mg "range" = none
  b_zip : mg "zip" = none
  b_list : mg "list" = none
  b_set : mg "set" = none
  b_int : mg "int" = none
  b_max : mg "max" = none
  b_dict : mg "dict" = none
  b_sorted : mg "sorted" = none
  b_tuple : mg "tuple" = none
  b_bool : mg "bool" = none
  b_min : mg "min" = none
  c_LETTERS : ∃ t, mg "LETTERS" = some (.str "abcdefghijklmnopqrstuvwxyz" t)
  c_MAX_LETTERS : ∃ t, mg "MAX_LETTERS" = some (.int 8 t)
  c_MAX_STATIONS : ∃ t, mg "MAX_STATIONS" = some (.int 40 t)
  c_MAX_SEATS : ∃ t, mg "MAX_SEATS" = some (.int 8 t)
  c_MAX_ARRIVALS : ∃ t, mg "MAX_ARRIVALS" = some (.int 1000000000000000000 t)
end Fb
namespace Fb
open PySem PySem.Spec PyProof.Rows L2
def isP : Key → Bool
  | .inl _ => false
  | .inr _ => true
def spPort : Sp := fun vs H Q _ => ∃ k : Key, vs = [kV k] ∧ Q (.bl (isP k)) H
section
variable {P : Program} {w : World} {K : PySem.W.Frag} {mg : Str → Option Value} {base : Heap}
theorem ok_is_port (A : All K mg) : Cal P w K mg base 1 "is_port" spPort := by
  refine cal_of A.d_is_port sc_is_port (fun _ _ _ _ _ _ us hl => match us, hl with | [_], _ => rfl) (fun vs H Q E h => ?_) (fun f cdv A' outer s H vs Q E hr h => ?_)
  · obtain ⟨k, rfl, _⟩ := h
    rfl
  · obtain ⟨k, rfl, q⟩ := h
    refine ⟨_, (pss_one (ps_ret (pe_callB (id := "isinstance") (k_isi (K := K) rfl) (by rfl) A.b_isinstance (by decide +kernel) (pa_cons (pv 0) (pa_cons (pe_bltn (v := .ty "str") (u := .type "str") (by rfl) A.b_str (by decide +kernel) rfl) pa_nil))))), ?_⟩
    walk_at "begin"
    cases k with
    | inl i => exact i_isI (b := "str") (k := false) (by decide +kernel) q
    | inr x => exact i_isS (b := "str") (k := true) (by decide +kernel) q
end
end Fb

namespace Fb
open PySem PySem.Spec PyProof.Rows L2
/-! ### networks -/
def okPlace (n i : Nat) : Key → Prop
  | .inl p => (i : Int) < p ∧ p < n
  | .inr x => 1 ≤ x.length ∧ x.length ≤ 8 ∧ ∀ c ∈ x.cps.toList, 97 ≤ c ∧ c ≤ 122
structure NetOk (net : List (List Key)) : Prop where
  pos : 0 < net.length
  le : net.length ≤ 40
  size : ∀ (i : Nat) (seats : List Key), net[i]? = some seats → 1 ≤ seats.length ∧ seats.length ≤ 8
  plc : ∀ (i : Nat) (seats : List Key) (k : Key), net[i]? = some seats → k ∈ seats → okPlace net.length i k
/-! ### the flow through a network -/
def seatStep (d : Int) (j : List Int) : Key → List Int
  | .inl p => j.set p.toNat (j.getD p.toNat 0 + d)
  | .inr _ => j
theorem seatStep_len (d : Int) (j : List Int) (k : Key) : (seatStep d j k).length = j.length := by
  cases k <;> simp [seatStep]
theorem seats_len (d : Int) (ks : List Key) (j : List Int) : (ks.foldl (seatStep d) j).length = j.length := by
  induction ks generalizing j with
  | nil => rfl
  | cons k ks ih => rw [List.foldl_cons, ih, seatStep_len]
def flowN (net : List (List Key)) (lens : List Int) (a : Int) : Nat → List Int × List Int
  | 0 => (a :: List.replicate (net.length - 1) 0, [])
  | i + 1 =>
    let r := flowN net lens a i
    let seats := net.getD i []
    let d := (lens.getD i 0 + r.1.getD i 0) / (seats.length : Int)
    (seats.foldl (seatStep d) r.1, r.2 ++ [d])
def flow (net : List (List Key)) (lens : List Int) (a : Int) : List Int × List Int := flowN net lens a net.length
theorem flowN_len {net : List (List Key)} (h : 0 < net.length) (lens : List Int) (a : Int) (i : Nat) : (flowN net lens a i).1.length = net.length := by
  induction i with
  | zero => simp [flowN]; omega
  | succ i ih => simp only [flowN]; rw [seats_len, ih]
theorem flowN_len2 (net : List (List Key)) (lens : List Int) (a : Int) (i : Nat) : (flowN net lens a i).2.length = i := by
  induction i with
  | zero => rfl
  | succ i ih => simp only [flowN]; rw [List.length_append, ih]; rfl
def iV (ns : List Int) : List V := ns.map V.int
theorem iV_at {ns : List Int} {i : Nat} (h : i < ns.length) : atI (iV ns) (i : Int) = some (.int (ns.getD i 0)) := by
  refine atI_nat ?_
  unfold iV
  rw [List.getElem?_map, List.getD_eq_getElem?_getD, List.getElem?_eq_getElem h]
  rfl
theorem iV_len (ns : List Int) : (iV ns).length = ns.length := by simp [iV]
theorem getD_of {α : Type} {l : List α} {i : Nat} {x d : α} (h : l[i]? = some x) : l.getD i d = x := by
  rw [List.getD_eq_getElem?_getD, h]; rfl
def spFlow (K : PySem.W.Frag) : Sp := fun vs H Q _ => ∃ (n : V) (la : Addr) (net : List (List Key)) (lens : List Int) (a : Int), vs = [n, .ref la, .int a] ∧ Dt K H n (netD net) ∧ NetOk net ∧ SqL K H la (iV lens) ∧ lens.length = net.length ∧
  ∀ p j b H', Same H H' → H j = none → H b = none → j ≠ b → H' p = some (.tup [.ref j, .ref b]) → H' j = some (.lst (iV (flow net lens a).1)) → H' b = some (.lst (iV (flow net lens a).2)) → Q (.ref p) H'
section
variable {P : Program} {w : World} {K : PySem.W.Frag} {mg : Str → Option Value} {base : Heap}
theorem ok_count_flow (A : All K mg) (c_is_port : Cal P w K mg base 1 "is_port" spPort) : Cal P w K mg base 2 "count_flow" (spFlow K) := by
  refine cal_of A.d_count_flow sc_count_flow (fun _ _ _ _ _ _ us hl => match us, hl with | [_, _, _], _ => rfl) (fun vs H Q E h => ?_) (fun f cdv A' outer s H0 vs Q E hr h => ?_)
  · obtain ⟨n, la, net, lens, a, rfl, _⟩ := h
    rfl
  · obtain ⟨n, la, net, lens, a, rfl, hn, ok, hl, hll, k⟩ := h
    obtain ⟨na, xs, rfl, hna, hxs⟩ := hn.tup_inv
    have hxl : xs.length = net.length := by rw [hxs.len, List.length_map]
    refine ⟨_, (pss_cons (ps_set (i := 3) sc_count_flow.nd rfl (Or.inl rfl) (pe_op op_cat (pe_lst (pa_cons (pv 2) pa_nil)) (pe_op op_rep (pe_lst (pa_cons pe_int pa_nil)) (pe_op op_sub (pe_callB (id := "len") (k_len (K := K) rfl) (by rfl) A.b_len (by decide +kernel) (pa_cons (pv 0) pa_nil)) pe_int))))
 (pss_cons (ps_set (i := 4) sc_count_flow.nd rfl (Or.inl rfl) (pe_lst pa_nil))
 (pss_cons (ps_for PassesOwn.never rfl (k_enum (K := K) rfl (by rfl) A.b_enumerate (pa_cons (pv 0) pa_nil)) (k_tg (K := K) (n := 2) rfl rfl (pgs_cons (pg_name (i := 5) sc_count_flow.nd rfl (Or.inl rfl)) (pgs_cons (pg_name (i := 6) sc_count_flow.nd rfl (Or.inl rfl)) pgs_nil)))
 (pss_cons (ps_set (i := 7) sc_count_flow.nd rfl (Or.inl rfl) (pe_op op_fdiv (pe_op op_add (pe_ix (k_ixL (K := K) rfl) (pv 1) (pv 5) (fun _ _ => rfl)) (pe_ix (k_ixL (K := K) rfl) (pv 3) (pv 5) (fun _ _ => rfl))) (pe_callB (id := "len") (k_len (K := K) rfl) (by rfl) A.b_len (by decide +kernel) (pa_cons (pv 6) pa_nil))))
 (pss_cons (ps_expr (pe_bm PySem.F.plainAttrs_list PySem.F.slot_list_append PySem.F.type_list_append mt_append (pv 4) (pa_cons (pv 7) pa_nil)))
 (pss_one (ps_for PassesOwn.never rfl (k_pt (K := K) rfl (pv 6)) (pg_name (i := 8) sc_count_flow.nd rfl (Or.inl rfl))
 (pss_one (ps_if (pt_not (pt_val (pc c_is_port hr (by decide) (pa_cons (pv 8) pa_nil)))) (pss_one (ps_augS (pv 3) (pv 8) get_list (pv 7) ip_add set_list)) pss_nil)))))))
 (pss_one (ps_ret (pe_tup (pa_cons (pv 3) (pa_cons (pv 4) pa_nil)))))))), ?_⟩
    have st : Stt [] H0 [] [] H0 := Stt.init H0
    have hn40 := ok.le
    have hp0 := ok.pos
    walk_at "begin"
    -- joined = [arrivals] + [0] * (len(network) - 1)
    refine st_newL st (by simp) fun t1 n1 st => ?_
    walk_at "go"
    refine st_newL st (by simp) fun t2 n2 st => ?_
    walk_at "go"
    refine i_lenT (xs := xs) (by walk_at "sq") ?_
    walk_at "go"
    refine st_rep st (x := .int 0) (by walk_at "at") (by omega) (by omega) fun t3 H n3 e3 st => ?_
    refine st_cat st (xs := [.int a]) (zs := List.replicate ((xs.length : Int) - 1).toNat (.int 0)) (by walk_at "at") (by walk_at "at") (by simp; omega) fun j H nj ej st => ?_
    have ej1 : [V.int a] ++ List.replicate ((xs.length : Int) - 1).toNat (V.int 0) = iV (flowN net lens a 0).1 := by
      have : ((xs.length : Int) - 1).toNat = net.length - 1 := by omega
      rw [this]
      simp [iV, flowN]
    rw [ej1] at st
    walk_at "go"
    -- boats = []
    refine st_newL st (by simp) fun b nb st => ?_
    have st := st.picks [3, 4] (by decide) (L' := [(j, .lst (iV (flowN net lens a 0).1)), (b, .lst (iV (flowN net lens a 0).2))]) rfl
    walk_at "go"
    -- for station, seats in enumerate(network)
    refine ⟨false, na, xs, rfl, sqBT (by walk_at "sq"), ForIt.go (walk_enumB (xs := xs)) (fun i σ H => ∃ s5 s6 s7 s8, σ = [some (.ref na), some (.ref la), some (.int a), some (.ref j), some (.ref b), s5, s6, s7, s8] ∧ Stt [] H0 [(j, .lst (iV (flowN net lens a i).1)), (b, .lst (iV (flowN net lens a i).2))] [] H) ⟨_, _, _, _, rfl, st⟩ (fun i σ H _ p => ?_) ?_ ?_⟩
    · obtain ⟨_, _, _, _, _, st⟩ := p
      exact sqBT (by walk_at "sq")
    · rintro i v σ H H' hi ⟨s5, s6, s7, s8, rfl, st⟩ ⟨T, x, y, rfl, hT, rfl, hx, hy⟩
      have st := st.newT K hT (xs := [x, y])
      obtain rfl : x = V.int i := (Option.some.inj hx).symm
      obtain ⟨d, hd, hyd⟩ := hxs.get hy
      rw [List.getElem?_map] at hd
      obtain ⟨seats, hseats, rfl⟩ : ∃ seats, net[i]? = some seats ∧ seatsD seats = d := by
        cases e : net[i]? with
        | none => rw [e] at hd; cases hd
        | some z => rw [e] at hd; exact ⟨z, rfl, Option.some.inj hd⟩
      obtain ⟨sa, ss, rfl, hsa, hss⟩ := hyd.tup_inv
      have ess := hss.keys
      subst ess
      refine i_gtup (xs := [.int i, .ref sa]) (by walk_at "sq") rfl ?_
      walk_at "go"
      -- departures = (lengths[station] + joined[station]) // len(seats)
      obtain ⟨hz1, hz8⟩ := ok.size i seats hseats
      have hj := flowN_len hp0 lens a i
      have hin : i < net.length := by omega
      refine i_ixL (xs := iV lens) (by walk_at "sq") (iV_at (by omega)) ?_
      walk_at "go"
      refine i_ixL (xs := iV (flowN net lens a i).1) (by walk_at "sq") (iV_at (by omega)) ?_
      walk_at "go"
      refine i_lenT (xs := seats.map kV) (by walk_at "sq") ?_
      walk_at "go"
      rw [List.length_map]
      refine i_I ⟨by omega, by omega⟩ ?_
      generalize hd0 : (lens.getD i 0 + (flowN net lens a i).1.getD i 0) / (seats.length : Int) = dep
      walk_at "go"
      -- boats.append(departures)
      refine i_tyL (xs := iV (flowN net lens a i).2) (by walk_at "sq") ?_
      walk_at "go"
      have hb := flowN_len2 net lens a i
      refine st_append st 1 rfl (by rw [iV_len]; omega) fun H st => ?_
      have st := st.picks [0, 1] (by decide) (L' := [(j, .lst (iV ((seats.take 0).foldl (seatStep dep) (flowN net lens a i).1))), (b, .lst (iV ((flowN net lens a i).2 ++ [dep])))]) (by simp [iV])
      walk_at "go"
      -- for place in seats
      refine ⟨sa, rfl, ⟨_, by walk_at "sq"⟩, ForIt.go (walk_tup (xs := seats.map kV)) (fun m σ H => ∃ s8, σ = [some (.ref na), some (.ref la), some (.int a), some (.ref j), some (.ref b), some (.int i), some (.ref sa), some (.int dep), s8] ∧ Stt [] H0 [(j, .lst (iV ((seats.take m).foldl (seatStep dep) (flowN net lens a i).1))), (b, .lst (iV ((flowN net lens a i).2 ++ [dep])))] [] H) ⟨_, rfl, ⟨st.ex, st.own, st.mu, st.fr, st.nd, fun _ h => (List.not_mem_nil h).elim, fun _ h => (List.not_mem_nil h).elim, st.tk⟩⟩ (fun m σ H _ p => ?_) ?_ ?_⟩
      · obtain ⟨_, _, st⟩ := p
        walk_at "sq"
      · rintro m x σ H H' hm ⟨s8, rfl, st⟩ ⟨rfl, hx⟩
        rw [List.length_map] at hm
        obtain ⟨ky, hky, rfl⟩ : ∃ ky, seats[m]? = some ky ∧ kV ky = x := by
          rw [List.getElem?_map, List.getElem?_eq_getElem hm] at hx
          exact ⟨_, List.getElem?_eq_getElem hm, Option.some.inj hx⟩
        have etake : (seats.take (m + 1)).foldl (seatStep dep) (flowN net lens a i).1 = seatStep dep ((seats.take m).foldl (seatStep dep) (flowN net lens a i).1) ky := by
          rw [List.take_succ, hky]
          simp
        walk_at "go"
        refine ⟨ky, rfl, ?_⟩
        walk_at "go"
        cases ky with
        | inr z =>
          refine iteF ?_
          walk_at "go"
          exact ⟨_, rfl, by rw [etake]; exact st⟩
        | inl pz =>
          refine iteT ?_
          walk_at "go"
          obtain ⟨p1, p2⟩ : (i : Int) < pz ∧ pz < net.length := ok.plc i seats _ hseats (List.mem_of_getElem? hky)
          have hjl : ((seats.take m).foldl (seatStep dep) (flowN net lens a i).1).length = net.length := by rw [seats_len, hj]
          refine i_ixL (xs := iV ((seats.take m).foldl (seatStep dep) (flowN net lens a i).1)) (v := .int (((seats.take m).foldl (seatStep dep) (flowN net lens a i).1).getD pz.toNat 0)) (by walk_at "sq") ?_ ?_
          · have := iV_at (ns := (seats.take m).foldl (seatStep dep) (flowN net lens a i).1) (i := pz.toNat) (by omega)
            rw [Int.toNat_of_nonneg (by omega)] at this
            exact this
          walk_at "go"
          refine st_setL st 0 rfl (ixN_nat (by omega) (by rw [iV_len]; omega)) fun H st => ?_
          walk_at "go"
          refine ⟨_, rfl, ?_⟩
          rw [etake]
          have e : (iV ((seats.take m).foldl (seatStep dep) (flowN net lens a i).1)).set pz.toNat (.int (((seats.take m).foldl (seatStep dep) (flowN net lens a i).1).getD pz.toNat 0 + dep)) = iV (seatStep dep ((seats.take m).foldl (seatStep dep) (flowN net lens a i).1) (.inl pz)) := by
            simp [iV, seatStep, List.map_set]
          rw [e] at st
          exact st
      · rintro σ H ⟨s8, rfl, st⟩
        rw [List.length_map, List.take_length] at st
        refine ⟨_, _, _, _, rfl, ?_⟩
        have e1 : (flowN net lens a (i + 1)).1 = seats.foldl (seatStep dep) (flowN net lens a i).1 := by
          simp only [flowN, getD_of hseats, hd0]
        have e2 : (flowN net lens a (i + 1)).2 = (flowN net lens a i).2 ++ [dep] := by
          simp only [flowN, getD_of hseats, hd0]
        rw [e1, e2]
        exact st
    · rintro σ H ⟨s5, s6, s7, s8, rfl, st⟩
      walk_at "go"
      rw [hxl] at st
      refine st_newT K st (by simp) fun p np st => ?_
      exact k p j b _ st.same (st.isNew 0 rfl) (st.isNew 1 rfl) (st.ne 0 1 rfl rfl (by decide)) upd_same (st.at 0 rfl) (st.at 1 rfl)
end
end Fb

namespace Fb
open PySem PySem.Spec PyProof.Rows L2
def letterB (c : Nat) : Bool := decide (97 ≤ c) && decide (c ≤ 122)
def plcB (n i : Nat) : Key → Bool
  | .inl p => decide ((i : Int) < p) && decide (p < n)
  | .inr x => decide (1 ≤ x.length) && decide (x.length ≤ 8) && x.cps.toList.all letterB
theorem plcB_iff {n i : Nat} {k : Key} : plcB n i k = true ↔ okPlace n i k := by
  cases k with
  | inl p => simp [plcB, okPlace]
  | inr x => simp only [plcB, okPlace, Bool.and_eq_true, decide_eq_true_eq, List.all_eq_true, letterB, and_assoc]
theorem letters_eq : ("abcdefghijklmnopqrstuvwxyz" : Str).cps.toList = (List.range 26).map (· + 97) := by decide +kernel
theorem letters_mem (c : Nat) : decide (c ∈ ("abcdefghijklmnopqrstuvwxyz" : Str).cps.toList) = letterB c := by
  rw [letters_eq]
  have : (c ∈ (List.range 26).map (· + 97)) ↔ (97 ≤ c ∧ c ≤ 122) := by
    constructor
    · intro h
      obtain ⟨d, hd, rfl⟩ := List.mem_map.mp h
      have := List.mem_range.mp hd
      omega
    · intro h
      exact List.mem_map.mpr ⟨c - 97, List.mem_range.mpr (by omega), by omega⟩
  unfold letterB
  rw [Bool.eq_iff_iff]
  simp [this]
def keyZ : Key → Prop
  | .inl _ => True
  | .inr x => x.length ≤ 100000
def spVPlace (K : PySem.W.Frag) : Sp := fun vs H Q _ => ∃ (n : V) (net : List (List Key)) (i : Nat) (k : Key), vs = [n, .int i, kV k] ∧ Dt K H n (netD net) ∧ keyZ k ∧ ∀ H', Same H H' → Q (.bl (plcB net.length i k)) H'
/-- the first seat of a station that is not allowed: -1 for its number of seats -/
def firstBad (n i : Nat) (seats : List Key) : Option Int := if 1 ≤ seats.length ∧ seats.length ≤ 8 then (seats.findIdx? (fun k => !plcB n i k)).map (fun (j : Nat) => (j : Int)) else some (-1)
def oI : Option Int → V
  | some i => .int i
  | none => .non
def spFirstBad (K : PySem.W.Frag) : Sp := fun vs H Q _ => ∃ (n : V) (net : List (List Key)) (i : Nat) (seats : List Key), vs = [n, .int i] ∧ Dt K H n (netD net) ∧ net[i]? = some seats ∧ (∀ k ∈ seats, keyZ k) ∧ seats.length ≤ 100000 ∧ ∀ H', Same H H' → Q (oI (firstBad net.length i seats)) H'
theorem NetOk.bad {net : List (List Key)} (ok : NetOk net) {i : Nat} {seats : List Key} (h : net[i]? = some seats) : firstBad net.length i seats = none := by
  unfold firstBad
  rw [if_pos (ok.size i seats h)]
  have : seats.findIdx? (fun k => !plcB net.length i k) = none := by
    rw [List.findIdx?_eq_none_iff]
    intro k hk
    have := plcB_iff.mpr (ok.plc i seats k h hk)
    simp [this]
  rw [this]
  rfl
theorem NetOk.keyZ {net : List (List Key)} (ok : NetOk net) {i : Nat} {seats : List Key} (h : net[i]? = some seats) : ∀ k ∈ seats, keyZ k := fun k hk => by
  have := ok.plc i seats k h hk
  cases k with
  | inl _ => trivial
  | inr x => have := this.2.1; show x.length ≤ 100000; omega
/-- a station of a network, read -/
theorem net_at {K : PySem.W.Frag} {H : Hp} {net : List (List Key)} {xs : List V} (h : DtAll K H xs (net.map seatsD)) {i : Nat} {x : V} (e : xs[i]? = some x) : ∃ seats sa, net[i]? = some seats ∧ x = .ref sa ∧ TupAt K H sa (seats.map kV) := by
  obtain ⟨d, hd, hyd⟩ := h.get e
  rw [List.getElem?_map] at hd
  cases e : net[i]? with
  | none => rw [e] at hd; cases hd
  | some z =>
    rw [e] at hd
    cases hd
    obtain ⟨sa, ss, rfl, hsa, hss⟩ := hyd.tup_inv
    have ess := hss.keys
    subst ess
    exact ⟨z, sa, rfl, rfl, hsa⟩
theorem net_ix {K : PySem.W.Frag} {H : Hp} {net : List (List Key)} {xs : List V} (h : DtAll K H xs (net.map seatsD)) {i : Nat} {seats : List Key} (e : net[i]? = some seats) : ∃ sa, xs[i]? = some (.ref sa) ∧ TupAt K H sa (seats.map kV) := by
  obtain ⟨x, hx, hd⟩ := h.at (i := i) (d := seatsD seats) (by rw [List.getElem?_map, e]; rfl)
  obtain ⟨seats', sa, e', rfl, t⟩ := net_at h hx
  rw [e] at e'
  cases e'
  exact ⟨sa, hx, t⟩
section
variable {P : Program} {w : World} {K : PySem.W.Frag} {mg : Str → Option Value} {base : Heap}
theorem ok_is_valid_place (A : All K mg) (c_is_port : Cal P w K mg base 1 "is_port" spPort) : Cal P w K mg base 2 "is_valid_place" (spVPlace K) := by
  refine cal_of A.d_is_valid_place sc_is_valid_place (fun _ _ _ _ _ _ us hl => match us, hl with | [_, _, _], _ => rfl) (fun vs H Q E h => ?_) (fun f cdv A' outer s H0 vs Q E hr h => ?_)
  · obtain ⟨n, net, i, k, rfl, _⟩ := h
    rfl
  · obtain ⟨n, net, i, ky, rfl, hn, hz, k⟩ := h
    obtain ⟨na, xs, rfl, hna, hxs⟩ := hn.tup_inv
    have hxl : xs.length = net.length := by rw [hxs.len, List.length_map]
    obtain ⟨tM, h_MAX_LETTERS⟩ := A.c_MAX_LETTERS
    obtain ⟨tL, h_LETTERS⟩ := A.c_LETTERS
    refine ⟨_, (pss_cons (ps_if (pt_val (pc c_is_port hr (by decide) (pa_cons (pv 2) pa_nil))) (pss_one (ps_ret (pe_and (pe_chain op_le op_le pe_int (pe_callB (id := "len") (k_len (K := K) rfl) (by rfl) A.b_len (by decide +kernel) (pa_cons (pv 2) pa_nil)) (pe_glob (v := .int 8) rfl h_MAX_LETTERS ⟨_, rfl⟩)) (pe_one (pe_callB (id := "all") (k_all (K := K) rfl rfl) (by rfl) A.b_all (by decide +kernel) (pa_cons (pe_lc rfl sc_is_valid_place.nd (pi_str (pv 2)) (blkOk_by (own := [("letter", 3)]) (N := ["network", "station", "place", "letter"]) (sc := defScope s_is_valid_place) (by decide +kernel)) (fun _ _ _ _ _ => (pg_name (i := 3) sc_is_valid_place.nd rfl (Or.inl rfl))) (fun _ _ _ _ _ => pts_nil) (fun _ _ _ _ _ => (pe_cmpR op_inC (pv 3) (pe_glob (v := .str "abcdefghijklmnopqrstuvwxyz") rfl h_LETTERS ⟨_, rfl⟩) (by rfl)))) pa_nil)))))) pss_nil)
 (pss_one (ps_ret (pe_chain op_lt op_lt (pv 1) (pv 2) (pe_callB (id := "len") (k_len (K := K) rfl) (by rfl) A.b_len (by decide +kernel) (pa_cons (pv 0) pa_nil)))))), ?_⟩
    have st : Stt [] H0 [] [] H0 := Stt.init H0
    walk_at "begin"
    refine ⟨ky, rfl, ?_⟩
    walk_at "go"
    cases ky with
    | inl p =>
      refine iteF ?_
      walk_at "go"
      refine ite2 (fun h1 => ?_) (fun h1 => ?_)
      · walk_at "go"
        refine i_lenT (xs := xs) (by walk_at "sq") ?_
        walk_at "go"
        have e : plcB net.length i (.inl p) = decide (p < (xs.length : Int)) := by
          simp only [plcB]
          rw [h1, hxl]
          rfl
        rw [← e]
        exact k _ st.same
      · have e : plcB net.length i (.inl p) = false := by
          simp only [plcB]
          simp at h1
          simp
          omega
        rw [← e]
        exact k _ st.same
    | inr x =>
      refine iteT ?_
      walk_at "go"
      refine i_lenS (sz_of hz) ?_
      walk_at "go"
      have g1 : decide ((1 : Int) ≤ (x.length : Int)) = decide (1 ≤ x.length) := by
        rw [Bool.eq_iff_iff]; simp; omega
      have g2 : decide ((x.length : Int) ≤ (8 : Int)) = decide (x.length ≤ 8) := by
        rw [Bool.eq_iff_iff]; simp; omega
      rw [g1]
      by_cases h1 : 1 ≤ x.length
      · rw [decide_eq_true h1]
        refine iteT ?_
        walk_at "go"
        rw [g2]
        by_cases h2 : x.length ≤ 8
        · rw [decide_eq_true h2]
          walk_at "go"
          refine iteT ?_
          walk_at "go"
          refine ⟨x, rfl, LcIt.map walk_str (x.cps.toList.map fun c => V.bl (letterB c)) (by simp) (sz_lt (by have : x.cps.size = x.length := rfl; omega)) (fun _ _ => trivial) ?_ ?_⟩
          · rintro m v y H1 H' N hm hy e1 ⟨rfl, c, hc, rfl⟩ q
            walk_at "go"
            refine ⟨rfl, ?_⟩
            walk_at "go"
            rw [List.getElem?_map, Array.getElem?_toList, hc] at hy
            obtain rfl : V.bl (letterB c) = y := Option.some.inj hy
            rw [letters_mem]
            exact q _ (Same.refl _)
          · intro D H' hD e1 e2
            walk_at "go"
            refine i_all (bs := x.cps.toList.map letterB) (SqL.of (by rw [e2, List.map_map]; rfl)) ?_
            have e : plcB net.length i (.inr x) = (x.cps.toList.map letterB).all id := by
              simp only [plcB]
              rw [decide_eq_true h1, decide_eq_true h2, List.all_map]
              rfl
            rw [← e]
            exact k _ e1
        · rw [decide_eq_false h2]
          walk_at "go"
          refine iteF ?_
          have e : plcB net.length i (.inr x) = false := by
            simp only [plcB]
            rw [decide_eq_false h2]
            simp
          rw [← e]
          exact k _ st.same
      · rw [decide_eq_false h1]
        refine iteF ?_
        walk_at "go"
        refine iteF ?_
        have e : plcB net.length i (.inr x) = false := by
          simp only [plcB]
          rw [decide_eq_false h1]
          simp
        rw [← e]
        exact k _ st.same
theorem ok_first_invalid_seat (A : All K mg) (c_is_valid_place : Cal P w K mg base 2 "is_valid_place" (spVPlace K)) : Cal P w K mg base 3 "first_invalid_seat" (spFirstBad K) := by
  refine cal_of A.d_first_invalid_seat sc_first_invalid_seat (fun _ _ _ _ _ _ us hl => match us, hl with | [_, _], _ => rfl) (fun vs H Q E h => ?_) (fun f cdv A' outer s H0 vs Q E hr h => ?_)
  · obtain ⟨n, net, i, k, rfl, _⟩ := h
    rfl
  · obtain ⟨n, net, i, seats, rfl, hn, hse, hz, hzl, k⟩ := h
    obtain ⟨na, xs, rfl, hna, hxs⟩ := id hn.tup_inv
    obtain ⟨sa, hsx, hsa⟩ := net_ix hxs hse
    obtain ⟨tM, h_MAX_SEATS⟩ := A.c_MAX_SEATS
    refine ⟨_, (pss_cons (ps_set (i := 2) sc_first_invalid_seat.nd rfl (Or.inl rfl) (pe_ix (k_ixT (K := K) rfl) (pv 0) (pv 1) (fun _ _ => rfl)))
 (pss_cons (ps_if (pt_not (pt_chain op_le op_le pe_int (pe_callB (id := "len") (k_len (K := K) rfl) (by rfl) A.b_len (by decide +kernel) (pa_cons (pv 2) pa_nil)) (pe_glob (v := .int 8) rfl h_MAX_SEATS ⟨_, rfl⟩))) (pss_one (ps_ret (pe_un un_neg pe_int))) pss_nil)
 (pss_cons (ps_for PassesOwn.never rfl (k_enum (K := K) rfl (by rfl) A.b_enumerate (pa_cons (pv 2) pa_nil)) (k_tg (K := K) (n := 2) rfl rfl (pgs_cons (pg_name (i := 3) sc_first_invalid_seat.nd rfl (Or.inl rfl)) (pgs_cons (pg_name (i := 4) sc_first_invalid_seat.nd rfl (Or.inl rfl)) pgs_nil)))
 (pss_one (ps_if (pt_not (pt_val (pc c_is_valid_place hr (by decide) (pa_cons (pv 0) (pa_cons (pv 1) (pa_cons (pv 4) pa_nil)))))) (pss_one (ps_ret (pv 3))) pss_nil)))
 (pss_one (ps_ret pe_non))))), ?_⟩
    have st : Stt [] H0 [] [] H0 := Stt.init H0
    walk_at "begin"
    refine i_ixT (xs := xs) (by walk_at "sq") (atI_nat hsx) ?_
    walk_at "go"
    refine i_lenT (xs := seats.map kV) (by walk_at "sq") ?_
    walk_at "go"
    rw [List.length_map]
    have g1 : decide ((1 : Int) ≤ (seats.length : Int)) = decide (1 ≤ seats.length) := by
      rw [Bool.eq_iff_iff]; simp; omega
    have g2 : decide ((seats.length : Int) ≤ (8 : Int)) = decide (seats.length ≤ 8) := by
      rw [Bool.eq_iff_iff]; simp; omega
    rw [g1]
    have bad : ¬ (1 ≤ seats.length ∧ seats.length ≤ 8) → Q (.int (-1)) H0 := fun h => by
      have := k H0 st.same
      unfold firstBad at this
      rw [if_neg h] at this
      exact this
    by_cases h1 : 1 ≤ seats.length
    · rw [decide_eq_true h1]
      refine iteT ?_
      walk_at "go"
      rw [g2]
      by_cases h2 : seats.length ≤ 8
      · rw [decide_eq_true h2]
        refine iteF ?_
        walk_at "go"
        refine ⟨false, sa, seats.map kV, rfl, sqBT (by walk_at "sq"), ForIt.go (walk_enumB (xs := seats.map kV)) (fun m σ H => ∃ s3 s4, σ = [some (.ref na), some (.int i), some (.ref sa), s3, s4] ∧ Stt [] H0 [] [] H ∧ ∀ j ky, j < m → seats[j]? = some ky → plcB net.length i ky = true) ⟨_, _, rfl, st, fun _ _ h => absurd h (Nat.not_lt_zero _)⟩ (fun m σ H _ p => ?_) ?_ ?_⟩
        · obtain ⟨_, _, _, st, _⟩ := p
          exact sqBT (by walk_at "sq")
        · rintro m v σ H H' hm ⟨s3, s4, rfl, st, hall⟩ ⟨T, x, y, rfl, hT, rfl, hx, hy⟩
          have st := st.newT K hT (xs := [x, y])
          rw [List.length_map] at hm
          obtain rfl : x = V.int m := (Option.some.inj hx).symm
          obtain ⟨ky, hky, rfl⟩ : ∃ ky, seats[m]? = some ky ∧ kV ky = y := by
            dsimp only at hy
            rw [List.getElem?_map, List.getElem?_eq_getElem hm] at hy
            exact ⟨_, List.getElem?_eq_getElem hm, Option.some.inj hy⟩
          walk_at "go"
          refine i_gtup (xs := [.int m, kV ky]) (by walk_at "sq") rfl ?_
          walk_at "go"
          refine ⟨_, net, i, ky, rfl, Dt.keep st.tk _ _ hn, hz ky (List.mem_of_getElem? hky), fun H' e' => ?_⟩
          have st := (st.ext e').only (P' := []) [] rfl
          walk_at "go"
          cases hb : plcB net.length i ky with
          | true =>
            refine iteF ?_
            walk_at "go"
            refine ⟨_, _, rfl, st, fun j ky' hj hjk => ?_⟩
            by_cases e : j = m
            · subst e
              rw [hky] at hjk
              cases hjk
              exact hb
            · exact hall j ky' (by omega) hjk
          | false =>
            refine iteT ?_
            walk_at "go"
            have := k _ st.same
            unfold firstBad at this
            rw [if_pos ⟨h1, h2⟩] at this
            have e : seats.findIdx? (fun k => !plcB net.length i k) = some m := by
              rw [List.findIdx?_eq_some_iff_getElem]
              refine ⟨hm, ?_, fun j hj => ?_⟩
              · have : seats[m] = ky := by
                  rw [List.getElem?_eq_getElem hm] at hky
                  exact Option.some.inj hky
                rw [this, hb]
                rfl
              · have := hall j _ hj (List.getElem?_eq_getElem (by omega))
                simp [this]
            rw [e] at this
            exact this
        · rintro σ H ⟨s3, s4, rfl, st, hall⟩
          walk_at "go"
          rw [List.length_map] at hall
          have := k _ st.same
          unfold firstBad at this
          rw [if_pos ⟨h1, h2⟩] at this
          have e : seats.findIdx? (fun k => !plcB net.length i k) = none := by
            rw [List.findIdx?_eq_none_iff]
            intro ky hk
            obtain ⟨j, hj⟩ := List.getElem?_of_mem hk
            simp [hall j ky (List.getElem?_eq_some_iff.mp hj).1 hj]
          rw [e] at this
          exact this
      · rw [decide_eq_false h2]
        refine iteT ?_
        walk_at "go"
        exact bad (fun h => h2 h.2)
    · rw [decide_eq_false h1]
      refine iteF ?_
      walk_at "go"
      refine iteT ?_
      walk_at "go"
      exact bad (fun h => h1 h.1)
end
end Fb

namespace Fb
open PySem PySem.Spec PyProof.Rows L2
structure StOk (net : List (List Key)) (n : Int) (qs : List (List Int)) : Prop where
  one : 1 ≤ n
  len : qs.length = net.length
  short : ∀ (i : Nat) (q : List Int) (seats : List Key), qs[i]? = some q → net[i]? = some seats → q.length < seats.length
  nodup : qs.flatten.Nodup
  rng : ∀ p ∈ qs.flatten, 1 ≤ p ∧ p < n
theorem flatten_le {qs : List (List Int)} (h : ∀ q ∈ qs, q.length ≤ 8) : qs.flatten.length ≤ 8 * qs.length := by
  induction qs with
  | nil => simp
  | cons q qs ih =>
    rw [List.flatten_cons, List.length_append, List.length_cons]
    have h1 := h q (by simp)
    have h2 := ih fun q hq => h q (by simp [hq])
    omega
theorem StOk.qlen {net : List (List Key)} {n : Int} {qs : List (List Int)} (ok : NetOk net) (so : StOk net n qs) : ∀ q ∈ qs, q.length ≤ 8 := fun q hq => by
  obtain ⟨i, hi⟩ := List.getElem?_of_mem hq
  have hl : i < qs.length := (List.getElem?_eq_some_iff.mp hi).1
  have hs : net[i]? = some (net[i]'(by rw [← so.len]; exact hl)) := by simp
  have h1 := so.short i q _ hi hs
  have h2 := ok.size i _ hs
  omega
theorem StOk.wlen {net : List (List Key)} {n : Int} {qs : List (List Int)} (ok : NetOk net) (so : StOk net n qs) : qs.flatten.length ≤ 320 := by
  have h1 := flatten_le (so.qlen ok)
  have h2 := so.len
  have h3 := ok.le
  omega
theorem flatten_take (qs : List (List Int)) (i : Nat) {q : List Int} (h : qs[i]? = some q) : (qs.take (i + 1)).flatten = (qs.take i).flatten ++ q := by
  rw [List.take_succ, h]
  simp
def spVNet (K : PySem.W.Frag) : Sp := fun vs H Q _ => ∃ (n : V) (net : List (List Key)), vs = [n] ∧ Dt K H n (netD net) ∧ NetOk net ∧ ∀ H', Same H H' → Q .non H'
def spVCount : Sp := fun vs H Q _ => ∃ (c a b : Int), vs = [.int c, .int a, .int b] ∧ a ≤ c ∧ c ≤ b ∧ Q .non H
def spIsState (K : PySem.W.Frag) : Sp := fun vs H Q _ => ∃ (nv sv : V) (net : List (List Key)) (n : Int) (qs : List (List Int)), vs = [nv, sv] ∧ Dt K H nv (netD net) ∧ Dt K H sv (stD n qs) ∧ NetOk net ∧ StOk net n qs ∧ ∀ H', Same H H' → Q (.bl true) H'
def spVState (K : PySem.W.Frag) : Sp := fun vs H Q _ => ∃ (nv sv : V) (net : List (List Key)) (n : Int) (qs : List (List Int)), vs = [nv, sv] ∧ Dt K H nv (netD net) ∧ Dt K H sv (stD n qs) ∧ NetOk net ∧ StOk net n qs ∧ ∀ H', Same H H' → Q .non H'
def spQLens (K : PySem.W.Frag) : Sp := fun vs H Q _ => ∃ (sv : V) (n : Int) (qs : List (List Int)), vs = [sv] ∧ Dt K H sv (stD n qs) ∧ qs.length ≤ 1000 ∧ ∀ p H', H p = none → Same H H' → H' p = some (.lst (iV (qs.map fun q => (q.length : Int)))) → Q (.ref p) H'
theorem st_inv {K : PySem.W.Frag} {H : Hp} {v : V} {n : Int} {qs : List (List Int)} (h : Dt K H v (stD n qs)) : ∃ a qa xs, v = .ref a ∧ TupAt K H a [.int n, .ref qa] ∧ TupAt K H qa xs ∧ DtAll K H xs (qs.map intsD) := by
  obtain ⟨a, ys, rfl, ha, hys⟩ := h.tup_inv
  cases hys with
  | cons h1 h2 =>
    cases h2 with
    | cons h2 h3 =>
      cases h3
      cases h1
      obtain ⟨qa, xs, rfl, hq, hx⟩ := h2.tup_inv
      exact ⟨a, qa, xs, rfl, ha, hq, hx⟩
theorem qs_at {K : PySem.W.Frag} {H : Hp} {qs : List (List Int)} {xs : List V} (h : DtAll K H xs (qs.map intsD)) {i : Nat} {x : V} (e : xs[i]? = some x) : ∃ q qa, qs[i]? = some q ∧ x = .ref qa ∧ TupAt K H qa (iV q) := by
  obtain ⟨d, hd, hyd⟩ := h.get e
  rw [List.getElem?_map] at hd
  cases e : qs[i]? with
  | none => rw [e] at hd; cases hd
  | some z =>
    rw [e] at hd
    cases hd
    obtain ⟨sa, ss, rfl, hsa, hss⟩ := hyd.tup_inv
    have ess := hss.ints
    subst ess
    exact ⟨z, sa, rfl, rfl, hsa⟩
section
variable {P : Program} {w : World} {K : PySem.W.Frag} {mg : Str → Option Value} {base : Heap}
theorem ok_validate_network (A : All K mg) (c_first_invalid_seat : Cal P w K mg base 3 "first_invalid_seat" (spFirstBad K)) : Cal P w K mg base 4 "validate_network" (spVNet K) := by
  refine cal_of A.d_validate_network sc_validate_network (fun _ _ _ _ _ _ us hl => match us, hl with | [_], _ => rfl) (fun vs H Q E h => ?_) (fun f cdv A' outer s H0 vs Q E hr h => ?_)
  · obtain ⟨n, net, rfl, _⟩ := h
    rfl
  · obtain ⟨n, net, rfl, hn, ok, k⟩ := h
    obtain ⟨na, xs, rfl, hna, hxs⟩ := id hn.tup_inv
    have hxl : xs.length = net.length := by rw [hxs.len, List.length_map]
    have h40 := ok.le
    have hpos := ok.pos
    obtain ⟨tM, h_MAX_STATIONS⟩ := A.c_MAX_STATIONS
    refine ⟨_, (pss_cons (ps_if (pt_cmpR op_eq (pe_callB (id := "len") (k_len (K := K) rfl) (by rfl) A.b_len (by decide +kernel) (pa_cons (pv 0) pa_nil)) pe_int (nomark _)) (pss_one ps_never) pss_nil)
 (pss_one (ps_for PassesOwn.never rfl (pi_range1 (by rfl) A.b_range (pa_cons (pe_callB (id := "len") (k_len (K := K) rfl) (by rfl) A.b_len (by decide +kernel) (pa_cons (pv 0) pa_nil)) pa_nil)) (pg_name (i := 1) sc_validate_network.nd rfl (Or.inl rfl))
 (pss_cons (ps_set (i := 2) sc_validate_network.nd rfl (Or.inl rfl) (pe_ifExp (pt_cmpR op_eq (pv 1) (pe_glob (v := .int 40) rfl h_MAX_STATIONS ⟨_, rfl⟩) (nomark _)) (pe_un un_neg pe_int) (pc c_first_invalid_seat hr (by decide) (pa_cons (pv 0) (pa_cons (pv 1) pa_nil)))))
 (pss_one (ps_if (pt_cmpR op_notN (pv 2) pe_non (nomark _)) (pss_one ps_never) pss_nil)))))), ?_⟩
    have st : Stt [] H0 [] [] H0 := Stt.init H0
    walk_at "begin"
    refine i_lenT (xs := xs) (by walk_at "sq") ?_
    walk_at "go"
    rw [decide_eq_false (by omega)]
    refine iteF ?_
    walk_at "go"
    refine i_lenT (xs := xs) (by walk_at "sq") ?_
    walk_at "go"
    refine ⟨_, rfl, by omega, by omega, ForIt.go walk_range (fun i σ H => ∃ s1 s2, σ = [some (.ref na), s1, s2] ∧ Stt [] H0 [] [] H) ⟨_, _, rfl, st⟩ (fun _ _ _ _ _ => trivial) ?_ ?_⟩
    · rintro i x σ H H' hi ⟨s1, s2, rfl, st⟩ ⟨rfl, rfl⟩
      have hi' : i < net.length := by omega
      walk_at "go"
      rw [Int.zero_add]
      rw [decide_eq_false (by omega)]
      refine iteF ?_
      walk_at "go"
      have hs : net[i]? = some net[i] := by simp
      refine ⟨_, net, i, _, rfl, Dt.keep st.tk _ _ hn, hs, ok.keyZ hs, by have := (ok.size i _ hs).2; omega, fun H' e' => ?_⟩
      have st := st.ext e'
      rw [ok.bad hs]
      walk_at "go"
      refine ⟨rfl, ?_⟩
      walk_at "go"
      refine iteF ?_
      walk_at "go"
      exact ⟨_, _, rfl, st⟩
    · rintro σ H ⟨s1, s2, rfl, st⟩
      walk_at "go"
      exact k _ st.same
theorem ok_validate_count (A : All K mg) : Cal P w K mg base 1 "validate_count" spVCount := by
  refine cal_of A.d_validate_count sc_validate_count (fun _ _ _ _ _ _ us hl => match us, hl with | [_, _, _], _ => rfl) (fun vs H Q E h => ?_) (fun f cdv A' outer s H0 vs Q E hr h => ?_)
  · obtain ⟨c, a, b, rfl, _⟩ := h
    rfl
  · obtain ⟨c, a, b, rfl, h1, h2, q⟩ := h
    refine ⟨_, (pss_one (ps_if (pt_not (pt_chain op_le op_le (pv 1) (pv 0) (pv 2))) (pss_one ps_never) pss_nil)), ?_⟩
    walk_at "begin"
    rw [decide_eq_true h1]
    refine iteT ?_
    walk_at "go"
    rw [decide_eq_true h2]
    refine iteF ?_
    walk_at "go"
    exact q
theorem ok_queue_lengths (A : All K mg) : Cal P w K mg base 1 "queue_lengths" (spQLens K) := by
  refine cal_of A.d_queue_lengths sc_queue_lengths (fun _ _ _ _ _ _ us hl => match us, hl with | [_], _ => rfl) (fun vs H Q E h => ?_) (fun f cdv A' outer s H0 vs Q E hr h => ?_)
  · obtain ⟨sv, n, qs, rfl, _⟩ := h
    rfl
  · obtain ⟨sv, n, qs, rfl, hs, hz, k⟩ := h
    obtain ⟨a, qa, xs, rfl, ha, hq, hx⟩ := st_inv hs
    have hxl : xs.length = qs.length := by rw [hx.len, List.length_map]
    refine ⟨_, (pss_one (ps_ret (pe_lc rfl sc_queue_lengths.nd (k_pt (K := K) rfl (pe_ix (k_ixT (K := K) rfl) (pv 0) pe_int (fun _ _ => rfl))) (blkOk_by (own := [("queue", 1)]) (N := ["state", "queue"]) (sc := defScope s_queue_lengths) (by decide +kernel)) (fun _ _ _ _ _ => (pg_name (i := 1) sc_queue_lengths.nd rfl (Or.inl rfl))) (fun _ _ _ _ _ => pts_nil) (fun _ _ _ _ _ => (pe_callB (id := "len") (k_len (K := K) rfl) (by rfl) A.b_len (by decide +kernel) (pa_cons (pv 1) pa_nil)))))), ?_⟩
    have st : Stt [] H0 [] [] H0 := Stt.init H0
    walk_at "begin"
    refine i_ixT (xs := [.int n, .ref qa]) (by walk_at "sq") (v := .ref qa) rfl ?_
    walk_at "go"
    refine ⟨qa, rfl, ⟨_, by walk_at "sq"⟩, LcIt.map (walk_tup (xs := xs)) (iV (qs.map fun q => (q.length : Int))) (by rw [iV_len, List.length_map, hxl]) (sz_lt (n := xs.length) (by omega)) (fun H' e => (hq.keep (TK.same e)).sq) ?_ ?_⟩
    · rintro i x y H1 H' N hi hy e1 ⟨rfl, hxi⟩ q
      obtain ⟨qq, qb, hqi, rfl, hqb⟩ := qs_at hx hxi
      walk_at "go"
      refine ⟨rfl, ?_⟩
      walk_at "go"
      refine i_lenT ((hqb.keep (TK.same e1)).sq) ?_
      rw [iV_len]
      unfold iV at hy
      rw [List.map_map, List.getElem?_map, hqi] at hy
      obtain rfl : V.int (qq.length : Int) = y := Option.some.inj hy
      exact q _ (Same.refl _)
    · intro D H' hD e1 e2
      exact k _ _ hD e1 e2
theorem ok_is_valid_state (A : All K mg) : Cal P w K mg base 1 "is_valid_state" (spIsState K) := by
  refine cal_of A.d_is_valid_state sc_is_valid_state (fun _ _ _ _ _ _ us hl => match us, hl with | [_, _], _ => rfl) (fun vs H Q E h => ?_) (fun f cdv A' outer s H0 vs Q E hr h => ?_)
  · obtain ⟨nv, sv, net, n, qs, rfl, _⟩ := h
    rfl
  · obtain ⟨nv, sv, net, n, qs, rfl, hn, hs, ok, so, k⟩ := h
    obtain ⟨na, ns, rfl, hna, hns⟩ := id hn.tup_inv
    obtain ⟨a, qa, xs, rfl, ha, hq, hx⟩ := st_inv hs
    have hxl : xs.length = qs.length := by rw [hx.len, List.length_map]
    have hnl : ns.length = net.length := by rw [hns.len, List.length_map]
    have hql := so.len
    have h40 := ok.le
    refine ⟨_, (pss_cons (ps_if (pt_cmpR op_ne (pe_callB (id := "len") (k_len (K := K) rfl) (by rfl) A.b_len (by decide +kernel) (pa_cons (pv 1) pa_nil)) pe_int (nomark _)) (pss_one (ps_ret pe_bl)) pss_nil)
 (pss_cons (ps_asg (pv 1) (k_tg (K := K) (n := 2) rfl rfl (pgs_cons (pg_name (i := 2) sc_is_valid_state.nd rfl (Or.inr rfl)) (pgs_cons (pg_name (i := 3) sc_is_valid_state.nd rfl (Or.inl rfl)) pgs_nil))))
 (pss_cons (ps_if (PW.pt (pw_or (pt_cmpR op_lt (pv 2) pe_int (nomark _)) (pw_or1 (pt_cmpR op_ne (pe_callB (id := "len") (k_len (K := K) rfl) (by rfl) A.b_len (by decide +kernel) (pa_cons (pv 3) pa_nil)) (pe_callB (id := "len") (k_len (K := K) rfl) (by rfl) A.b_len (by decide +kernel) (pa_cons (pv 0) pa_nil)) (nomark _))))) (pss_one (ps_ret pe_bl)) pss_nil)
 (pss_cons (ps_if (pt_not (pt_val (pe_callB (id := "all") (k_all (K := K) rfl rfl) (by rfl) A.b_all (by decide +kernel) (pa_cons (pe_lc rfl sc_is_valid_state.nd (k_zip (K := K) rfl (by rfl) A.b_zip (pa_cons (pv 3) (pa_cons (pv 0) pa_nil))) (blkOk_by (own := [("queue", 4), ("seats", 6)]) (N := ["network", "state", "next_passenger", "queues", "queue", "waiting", "seats", "passenger"]) (sc := defScope s_is_valid_state) (by decide +kernel)) (fun _ _ _ _ _ => (k_tg (K := K) (n := 2) rfl rfl (pgs_cons (pg_name (i := 4) sc_is_valid_state.nd rfl (Or.inl rfl)) (pgs_cons (pg_name (i := 6) sc_is_valid_state.nd rfl (Or.inl rfl)) pgs_nil)))) (fun _ _ _ _ _ => pts_nil) (fun _ _ _ _ _ => (pe_cmpR op_lt (pe_callB (id := "len") (k_len (K := K) rfl) (by rfl) A.b_len (by decide +kernel) (pa_cons (pv 4) pa_nil)) (pe_callB (id := "len") (k_len (K := K) rfl) (by rfl) A.b_len (by decide +kernel) (pa_cons (pv 6) pa_nil)) (nomark _)))) pa_nil)))) (pss_one (ps_ret pe_bl)) pss_nil)
 (pss_cons (ps_set (i := 5) sc_is_valid_state.nd rfl (Or.inl rfl) (pe_lst pa_nil))
 (pss_cons (ps_for PassesOwn.never rfl (k_pt (K := K) rfl (pv 3)) (pg_name (i := 4) sc_is_valid_state.nd rfl (Or.inl rfl))
 (pss_one (ps_expr (pe_bm PySem.F.plainAttrs_list PySem.F.slot_list_extend PySem.F.type_list_extend mt_extend (pv 5) (pa_cons (pe_callTy (T := "list") (k_list (K := K) rfl) (by rfl) A.b_list (by decide +kernel) (pa_cons (pv 4) pa_nil)) pa_nil)))))
 (pss_one (ps_ret (pe_and (pe_cmpR op_eq (RZ.pe_lenSetI (by rfl) A.b_len (by rfl) A.b_set (pv 5)) (pe_callB (id := "len") (k_len (K := K) rfl) (by rfl) A.b_len (by decide +kernel) (pa_cons (pv 5) pa_nil)) (nomark _)) (pe_one (pe_callB (id := "all") (k_all (K := K) rfl rfl) (by rfl) A.b_all (by decide +kernel) (pa_cons (pe_lc rfl sc_is_valid_state.nd (k_pl (K := K) rfl (pv 5)) (blkOk_by (own := [("passenger", 7)]) (N := ["network", "state", "next_passenger", "queues", "queue", "waiting", "seats", "passenger"]) (sc := defScope s_is_valid_state) (by decide +kernel)) (fun _ _ _ _ _ => (pg_name (i := 7) sc_is_valid_state.nd rfl (Or.inl rfl))) (fun _ _ _ _ _ => pts_nil) (fun _ _ _ _ _ => (pe_chain op_le op_lt pe_int (pv 7) (pv 2)))) pa_nil)))))))))))), ?_⟩
    have st : Stt [] H0 [] [] H0 := Stt.init H0
    walk_at "begin"
    refine i_lenT (xs := [.int n, .ref qa]) (by walk_at "sq") ?_
    walk_at "go"
    refine iteF ?_
    walk_at "go"
    refine i_gtup (xs := [.int n, .ref qa]) (by walk_at "sq") rfl ?_
    walk_at "go"
    rw [decide_eq_false (by have := so.one; omega)]
    refine iteF ?_
    walk_at "go"
    refine i_lenT (xs := xs) (by walk_at "sq") ?_
    walk_at "go"
    refine i_lenT (xs := ns) (by walk_at "sq") ?_
    walk_at "go"
    rw [decide_eq_true (by omega)]
    refine iteF ?_
    walk_at "go"
    -- all queues are short
    refine ⟨false, false, qa, na, xs, ns, rfl, sqBT (by walk_at "sq"), sqBT (by walk_at "sq"), LcIt.map (walk_zipB (xs := xs) (ys := ns) (n := qs.length) (by omega)) (List.replicate qs.length (.bl true)) (by simp) (sz_lt (by omega)) (fun H' e => ⟨sqBT (hq.keep (TK.same e)).sq, sqBT (hna.keep (TK.same e)).sq⟩) ?_ ?_⟩
    · rintro i v y H1 H' N hi hy e1 ⟨T, x1, x2, rfl, hT, rfl, hx1, hx2⟩ q
      obtain ⟨qq, qb, hqi, rfl, hqb⟩ := qs_at hx hx1
      obtain ⟨seats, sb, hsi, rfl, hsb⟩ := net_at hns hx2
      have e2 : Same H0 (upd H1 T (.tup [.ref qb, .ref sb])) := e1.trans (Same.new hT)
      walk_at "go"
      refine i_gtup (xs := [.ref qb, .ref sb]) (SqT.of upd_same) rfl ?_
      walk_at "go"
      refine ⟨rfl, ?_⟩
      walk_at "go"
      refine i_lenT ((hqb.keep (TK.same e2)).sq) ?_
      walk_at "go"
      refine i_lenT ((hsb.keep (TK.same e2)).sq) ?_
      walk_at "go"
      have hsh := so.short i qq seats hqi hsi
      rw [iV_len, List.length_map, decide_eq_true (by omega)]
      rw [List.getElem?_replicate, if_pos hi] at hy
      obtain rfl := Option.some.inj hy
      exact q _ (Same.new hT)
    · intro D H hD e1 e2
      have st := st.fresh hD e1 e2 trivial
      walk_at "go"
      refine i_all (bs := List.replicate qs.length true) (by rw [List.map_replicate]; walk_at "sq") ?_
      have : (List.replicate qs.length true).all id = true := by simp
      rw [this]
      walk_at "go"
      refine iteF ?_
      walk_at "go"
      refine st_newL st (by simp) fun wl nw st => ?_
      have st := st.picks [1] (by decide) (L' := [(wl, .lst (iV ((qs.take 0).flatten)))]) rfl
      walk_at "go"
      -- for queue in queues: waiting.extend(list(queue))
      refine ⟨qa, rfl, ⟨_, by walk_at "sq"⟩, ForIt.go (walk_tup (xs := xs)) (fun i σ H => ∃ s4, σ = [some (.ref na), some (.ref a), some (.int n), some (.ref qa), s4, some (.ref wl), none, none] ∧ Stt [] H0 [(wl, .lst (iV ((qs.take i).flatten)))] [] H) ⟨_, rfl, st⟩ (fun i σ H _ p => ?_) ?_ ?_⟩
      · obtain ⟨_, _, st⟩ := p
        walk_at "sq"
      · rintro i x σ H H' hi ⟨s4, rfl, st⟩ ⟨rfl, hxi⟩
        obtain ⟨qq, qb, hqi, rfl, hqb⟩ := qs_at hx hxi
        walk_at "go"
        refine i_tyL (xs := iV ((qs.take i).flatten)) (by walk_at "sq") ?_
        walk_at "go"
        refine st_list st (ys := iV qq) (.inr (by walk_at "sq")) fun l H hl st => ?_
        walk_at "go"
        have b1 : (qs.take i).flatten.length ≤ 8 * (qs.take i).length := flatten_le fun q hq => so.qlen ok q (List.mem_of_mem_take hq)
        have b2 := so.qlen ok qq (List.mem_of_getElem? hqi)
        have b3 : (qs.take i).length ≤ 40 := by rw [List.length_take]; omega
        refine st_extend st 0 rfl (zs := iV qq) (by walk_at "at") (by rw [iV_len, iV_len]; omega) fun H st => ?_
        have st := st.picks [0] (by decide) (L' := [(wl, .lst (iV ((qs.take i).flatten) ++ iV qq))]) rfl
        refine ⟨_, rfl, ?_⟩
        rw [flatten_take qs i hqi]
        have e : iV ((qs.take i).flatten ++ qq) = iV ((qs.take i).flatten) ++ iV qq := by simp [iV]
        rw [e]
        exact st
      · rintro σ H ⟨s4, rfl, st⟩
        rw [hxl, List.take_length] at st
        have hw := so.wlen ok
        walk_at "go"
        refine ⟨wl, qs.flatten, rfl, by walk_at "sq", so.nodup, by omega, ?_⟩
        walk_at "go"
        refine i_lenL (xs := iV qs.flatten) (by walk_at "sq") ?_
        walk_at "go"
        rw [iV_len, decide_eq_true rfl]
        refine iteT ?_
        walk_at "go"
        refine ⟨wl, rfl, ⟨_, by walk_at "sq"⟩, LcIt.map (walk_list (xs := iV qs.flatten)) (List.replicate qs.flatten.length (.bl true)) (by rw [List.length_replicate, iV_len]) (sz_lt (by rw [iV_len]; omega)) (fun H' e => Same.seq e (by walk_at "sq")) ?_ ?_⟩
        · rintro i v y H1 H' N hi hy e1 ⟨rfl, hv⟩ q
          rw [iV_len] at hi
          obtain ⟨p, hp, rfl⟩ : ∃ p, qs.flatten[i]? = some p ∧ V.int p = v := by
            unfold iV at hv
            rw [List.getElem?_map, List.getElem?_eq_getElem hi] at hv
            exact ⟨_, List.getElem?_eq_getElem hi, Option.some.inj hv⟩
          have hr := so.rng p (List.mem_of_getElem? hp)
          walk_at "go"
          refine ⟨rfl, ?_⟩
          walk_at "go"
          rw [decide_eq_true hr.1]
          refine iteT ?_
          walk_at "go"
          rw [decide_eq_true hr.2]
          rw [List.getElem?_replicate, if_pos hi] at hy
          obtain rfl := Option.some.inj hy
          exact q _ (Same.refl _)
        · intro D H' hD e1 e2
          walk_at "go"
          refine i_all (bs := List.replicate qs.flatten.length true) (by rw [List.map_replicate]; exact SqL.of e2) ?_
          have : (List.replicate qs.flatten.length true).all id = true := by simp
          rw [this]
          exact k _ (st.same.trans e1)
theorem ok_validate_state (A : All K mg) (c_is_valid_state : Cal P w K mg base 1 "is_valid_state" (spIsState K)) : Cal P w K mg base 2 "validate_state" (spVState K) := by
  refine cal_of A.d_validate_state sc_validate_state (fun _ _ _ _ _ _ us hl => match us, hl with | [_, _], _ => rfl) (fun vs H Q E h => ?_) (fun f cdv A' outer s H0 vs Q E hr h => ?_)
  · obtain ⟨nv, sv, net, n, qs, rfl, _⟩ := h
    rfl
  · obtain ⟨nv, sv, net, n, qs, rfl, hn, hs, ok, so, k⟩ := h
    refine ⟨_, (pss_one (ps_if (pt_not (pt_val (pc c_is_valid_state hr (by decide) (pa_cons (pv 0) (pa_cons (pv 1) pa_nil))))) (pss_one ps_never) pss_nil)), ?_⟩
    walk_at "begin"
    refine ⟨_, _, net, n, qs, rfl, hn, hs, ok, so, fun H' e => ?_⟩
    walk_at "go"
    refine iteF ?_
    walk_at "go"
    exact k _ e
theorem ok_validate_all (A : All K mg) (c_validate_network : Cal P w K mg base 4 "validate_network" (spVNet K)) (c_validate_state : Cal P w K mg base 2 "validate_state" (spVState K)) : Cal P w K mg base 5 "validate_all" (spVState K) := by
  refine cal_of A.d_validate_all sc_validate_all (fun _ _ _ _ _ _ us hl => match us, hl with | [_, _], _ => rfl) (fun vs H Q E h => ?_) (fun f cdv A' outer s H0 vs Q E hr h => ?_)
  · obtain ⟨nv, sv, net, n, qs, rfl, _⟩ := h
    rfl
  · obtain ⟨nv, sv, net, n, qs, rfl, hn, hs, ok, so, k⟩ := h
    refine ⟨_, (pss_cons (ps_expr (pc c_validate_network hr (by decide) (pa_cons (pv 0) pa_nil)))
 (pss_one (ps_expr (pc c_validate_state hr (by decide) (pa_cons (pv 0) (pa_cons (pv 1) pa_nil)))))), ?_⟩
    walk_at "begin"
    refine ⟨_, net, rfl, hn, ok, fun H1 e1 => ?_⟩
    walk_at "go"
    refine ⟨_, _, net, n, qs, rfl, Dt.keep (TK.same e1) _ _ hn, Dt.keep (TK.same e1) _ _ hs, ok, so, fun H2 e2 => ?_⟩
    walk_at "go"
    exact k _ (e1.trans e2)
end
end Fb

namespace Fb
open PySem PySem.Spec PyProof.Rows L2
/-! ### dicts as lists of pairs -/
section
variable {κ α : Type} [DecidableEq κ]
def dget (m : List (κ × α)) (k : κ) : Option α := (m.find? fun p => decide (p.1 = k)).map (·.2)
def dput (m : List (κ × α)) (k : κ) (x : α) : List (κ × α) := if (m.any fun p => decide (p.1 = k)) = true then m.map (fun p => if p.1 = k then (p.1, x) else p) else m ++ [(k, x)]
def dmap (f : α → V) (m : List (κ × α)) : List (κ × V) := m.map fun p => (p.1, f p.2)
theorem dmap_get (f : α → V) (m : List (κ × α)) (k : κ) : valV (dmap f m) k = (dget m k).map f := by
  induction m with
  | nil => rfl
  | cons p m ih =>
    by_cases e : p.1 = k
    · simp [dmap, valV, dget, List.find?_cons, e]
    · have e2 : valV (dmap f (p :: m)) k = valV (dmap f m) k := valV_neg (p := (p.1, f p.2)) e
      have e3 : dget (p :: m) k = dget m k := by simp [dget, List.find?_cons, e]
      rw [e2, e3, ih]
theorem dmap_any (f : α → V) (m : List (κ × α)) (k : κ) : ((dmap f m).any fun p => decide (p.1 = k)) = (m.any fun p => decide (p.1 = k)) := by
  unfold dmap
  rw [List.any_map]
  rfl
theorem dmap_put (f : α → V) (m : List (κ × α)) (k : κ) (x : α) : putK (dmap f m) k (f x) = dmap f (dput m k x) := by
  unfold putK dput
  rw [dmap_any]
  by_cases h : (m.any fun p => decide (p.1 = k)) = true
  · rw [if_pos h, if_pos h]
    unfold dmap
    rw [List.map_map, List.map_map]
    refine List.map_congr_left fun p _ => ?_
    show (if p.1 = k then (p.1, f x) else (p.1, f p.2)) = _
    by_cases e : p.1 = k
    · simp [e]
    · simp [e]
  · rw [if_neg h, if_neg h]
    simp [dmap]
theorem dput_len (m : List (κ × α)) (k : κ) (x : α) : (dput m k x).length ≤ m.length + 1 := by
  unfold dput
  by_cases h : (m.any fun p => decide (p.1 = k)) = true
  · rw [if_pos h, List.length_map]; omega
  · rw [if_neg h, List.length_append]; simp
end
/-! ### who finishes -/
def finStep (d : Int) (m : List (Key × Int)) (k : Key) : List (Key × Int) := if isP k = true ∧ 0 < d then dput m k ((dget m k).getD 0 + d) else m
def finN (net : List (List Key)) (bs : List Int) : Nat → List (Key × Int)
  | 0 => []
  | i + 1 => (net.getD i []).foldl (finStep (bs.getD i 0)) (finN net bs i)
def fin (net : List (List Key)) (bs : List Int) : List (Key × Int) := finN net bs net.length
theorem finStep_len (d : Int) (m : List (Key × Int)) (k : Key) : (finStep d m k).length ≤ m.length + 1 := by
  unfold finStep
  split
  · exact dput_len _ _ _
  · omega
theorem finFold_len (d : Int) (ks : List Key) (m : List (Key × Int)) : (ks.foldl (finStep d) m).length ≤ m.length + ks.length := by
  induction ks generalizing m with
  | nil => simp
  | cons k ks ih =>
    rw [List.foldl_cons, List.length_cons]
    have h1 := ih (finStep d m k)
    have h2 := finStep_len d m k
    omega
theorem finN_len {net : List (List Key)} (ok : NetOk net) (bs : List Int) (i : Nat) : (finN net bs i).length ≤ 8 * i := by
  induction i with
  | zero => simp [finN]
  | succ i ih =>
    simp only [finN]
    have h1 := finFold_len (bs.getD i 0) (net.getD i []) (finN net bs i)
    have h2 : (net.getD i []).length ≤ 8 := by
      rw [List.getD_eq_getElem?_getD]
      cases e : net[i]? with
      | none => simp
      | some s => exact (ok.size i s e).2
    omega
def dI (m : List (Key × Int)) : List (Key × V) := dmap V.int m
def lensOf (qs : List (List Int)) : List Int := qs.map fun q => (q.length : Int)
def spFin (K : PySem.W.Frag) : Sp := fun vs H Q _ => ∃ (nv : V) (ba : Addr) (net : List (List Key)) (bs : List Int), vs = [nv, .ref ba] ∧ Dt K H nv (netD net) ∧ NetOk net ∧ SqL K H ba (iV bs) ∧ bs.length = net.length ∧
  ∀ p H', H p = none → Same H H' → H' p = some (.dK (dI (fin net bs))) → Q (.ref p) H'
def spCBoats (K : PySem.W.Frag) : Sp := fun vs H Q _ => ∃ (nv sv : V) (net : List (List Key)) (n : Int) (qs : List (List Int)) (c : Int), vs = [nv, sv, .int c] ∧ Dt K H nv (netD net) ∧ Dt K H sv (stD n qs) ∧ NetOk net ∧ StOk net n qs ∧ 0 ≤ c ∧ c ≤ 1000000000000000000 ∧
  ∀ p H', H p = none → Same H H' → H' p = some (.lst (iV (flow net (lensOf qs) c).2)) → Q (.ref p) H'
def spCFin (K : PySem.W.Frag) : Sp := fun vs H Q _ => ∃ (nv sv : V) (net : List (List Key)) (n : Int) (qs : List (List Int)) (c : Int), vs = [nv, sv, .int c] ∧ Dt K H nv (netD net) ∧ Dt K H sv (stD n qs) ∧ NetOk net ∧ StOk net n qs ∧ 0 ≤ c ∧ c ≤ 1000000000000000000 ∧
  ∀ p H', H p = none → Same H H' → H' p = some (.dK (dI (fin net (flow net (lensOf qs) c).2))) → Q (.ref p) H'
section
variable {P : Program} {w : World} {K : PySem.W.Frag} {mg : Str → Option Value} {base : Heap}
theorem ok_finished_by (A : All K mg) (c_is_port : Cal P w K mg base 1 "is_port" spPort) : Cal P w K mg base 2 "finished_by" (spFin K) := by
  refine cal_of A.d_finished_by sc_finished_by (fun _ _ _ _ _ _ us hl => match us, hl with | [_, _], _ => rfl) (fun vs H Q E h => ?_) (fun f cdv A' outer s H0 vs Q E hr h => ?_)
  · obtain ⟨nv, ba, net, bs, rfl, _⟩ := h
    rfl
  · obtain ⟨nv, ba, net, bs, rfl, hn, ok, hb, hbl, k⟩ := h
    obtain ⟨na, ns, rfl, hna, hns⟩ := id hn.tup_inv
    have hnl : ns.length = net.length := by rw [hns.len, List.length_map]
    have h40 := ok.le
    have hu := hu_of hr
    refine ⟨_, (pss_cons (ps_set (i := 2) sc_finished_by.nd rfl (Or.inl rfl) pe_dnewK)
 (pss_cons (ps_for PassesOwn.never rfl (k_zip (K := K) rfl (by rfl) A.b_zip (pa_cons (pv 1) (pa_cons (pv 0) pa_nil))) (k_tg (K := K) (n := 2) rfl rfl (pgs_cons (pg_name (i := 3) sc_finished_by.nd rfl (Or.inl rfl)) (pgs_cons (pg_name (i := 4) sc_finished_by.nd rfl (Or.inl rfl)) pgs_nil)))
 (pss_one (ps_for PassesOwn.never rfl (k_pt (K := K) rfl (pv 4)) (pg_name (i := 5) sc_finished_by.nd rfl (Or.inl rfl))
 (pss_one (ps_if (PW.pt (pw_and (pt_val (pc c_is_port hr (by decide) (pa_cons (pv 5) pa_nil))) (pw_and1 (pt_cmpR op_gt (pv 3) pe_int (nomark _))))) (pss_one (ps_dput hu (pv 2) (pv 5) (pe_op op_add (pe_dget2 hu (pv 2) (pv 5) pe_int ⟨rfl, rfl, rfl, rfl⟩) (pv 3)) rfl)) pss_nil)))))
 (pss_one (ps_ret (pv 2))))), ?_⟩
    have st : Stt [] H0 [] [] H0 := Stt.init H0
    walk_at "begin"
    refine st_dnew st fun c H nc ec st => ?_
    have st := st.picks [0] (by decide) (L' := [(c, .dK (dI (finN net bs 0)))]) rfl
    walk_at "go"
    refine ⟨true, false, ba, na, iV bs, ns, rfl, sqBL (by walk_at "sq"), sqBT (by walk_at "sq"), ForIt.go (walk_zipB (xs := iV bs) (ys := ns) (n := net.length) (by rw [iV_len]; omega)) (fun i σ H => ∃ s3 s4 s5, σ = [some (.ref na), some (.ref ba), some (.ref c), s3, s4, s5] ∧ Stt [] H0 [(c, .dK (dI (finN net bs i)))] [] H) ⟨_, _, _, rfl, st⟩ (fun i σ H _ p => ?_) ?_ ?_⟩
    · obtain ⟨_, _, _, _, st⟩ := p
      exact ⟨sqBL (by walk_at "sq"), sqBT (by walk_at "sq")⟩
    · rintro i v σ H H' hi ⟨s3, s4, s5, rfl, st⟩ ⟨T, x1, x2, rfl, hT, rfl, hx1, hx2⟩
      have st := st.newT K hT (xs := [x1, x2])
      obtain ⟨d, hd, rfl⟩ : ∃ d, bs[i]? = some d ∧ V.int d = x1 := by
        dsimp only at hx1
        unfold iV at hx1
        rw [List.getElem?_map, List.getElem?_eq_getElem (by omega)] at hx1
        exact ⟨_, List.getElem?_eq_getElem (by omega), Option.some.inj hx1⟩
      obtain ⟨seats, sb, hsi, rfl, hsb⟩ := net_at hns hx2
      walk_at "go"
      refine i_gtup (xs := [.int d, .ref sb]) (by walk_at "sq") rfl ?_
      walk_at "go"
      have st := st.only (P' := []) [] rfl
      refine ⟨sb, rfl, ⟨_, by walk_at "sq"⟩, ForIt.go (walk_tup (xs := seats.map kV)) (fun m σ H => ∃ s5, σ = [some (.ref na), some (.ref ba), some (.ref c), some (.int d), some (.ref sb), s5] ∧ Stt [] H0 [(c, .dK (dI ((seats.take m).foldl (finStep d) (finN net bs i))))] [] H) ⟨_, rfl, st⟩ (fun m σ H _ p => ?_) ?_ ?_⟩
      · obtain ⟨_, _, st⟩ := p
        walk_at "sq"
      · rintro m x σ H H' hm ⟨s5, rfl, st⟩ ⟨rfl, hx⟩
        rw [List.length_map] at hm
        obtain ⟨ky, hky, rfl⟩ : ∃ ky, seats[m]? = some ky ∧ kV ky = x := by
          rw [List.getElem?_map, List.getElem?_eq_getElem hm] at hx
          exact ⟨_, List.getElem?_eq_getElem hm, Option.some.inj hx⟩
        have et : (seats.take (m + 1)).foldl (finStep d) (finN net bs i) = finStep d ((seats.take m).foldl (finStep d) (finN net bs i)) ky := by
          rw [List.take_succ, hky]
          simp
        have hlen : ((seats.take m).foldl (finStep d) (finN net bs i)).length ≤ 1000 := by
          have h1 := finFold_len d (seats.take m) (finN net bs i)
          have h2 := finN_len ok bs i
          have h3 := (ok.size i seats hsi).2
          rw [List.length_take] at h1
          omega
        generalize hm0 : (seats.take m).foldl (finStep d) (finN net bs i) = m0 at st et hlen
        walk_at "go"
        refine ⟨ky, rfl, ?_⟩
        walk_at "go"
        cases hp : isP ky with
        | false =>
          refine iteF ?_
          refine iteF ?_
          walk_at "go"
          have e : finStep d m0 ky = m0 := by unfold finStep; rw [if_neg (by simp [hp])]
          exact ⟨_, rfl, by rw [et, e]; exact st⟩
        | true =>
          refine iteT ?_
          walk_at "go"
          refine ite2 (fun h1 => ?_) (fun h1 => ?_)
          · have h1 : 0 < d := of_decide_eq_true h1
            walk_at "go"
            refine ⟨c, rfl, .inl ⟨_, Rd.of (st.at 0 rfl)⟩, ?_⟩
            walk_at "go"
            refine st_dget (st.at 0 rfl) ?_
            have eg : (valV (dI m0) ky).getD (.int 0) = .int ((dget m0 ky).getD 0) := by
              unfold dI
              rw [dmap_get]
              cases dget m0 ky <;> rfl
            rw [eg]
            walk_at "go"
            refine st_dput st 0 rfl (by unfold dI dmap; rw [List.length_map]; omega) fun H st => ?_
            refine ⟨_, rfl, ?_⟩
            have e : putK (dI m0) ky (.int ((dget m0 ky).getD 0 + d)) = dI (finStep d m0 ky) := by
              unfold finStep dI
              rw [if_pos ⟨hp, h1⟩]
              exact dmap_put V.int m0 ky _
            rw [e] at st
            rw [et]
            exact st
          · walk_at "go"
            have e : finStep d m0 ky = m0 := by unfold finStep; rw [if_neg (by simp at h1; omega)]
            exact ⟨_, rfl, by rw [et, e]; exact st⟩
      · rintro σ H ⟨s5, rfl, st⟩
        rw [List.length_map, List.take_length] at st
        refine ⟨_, _, _, rfl, ?_⟩
        have e : finN net bs (i + 1) = seats.foldl (finStep d) (finN net bs i) := by
          simp only [finN, getD_of hsi, getD_of hd]
        rw [e]
        exact st
    · rintro σ H ⟨s3, s4, s5, rfl, st⟩
      walk_at "go"
      exact k c _ (st.isNew 0 rfl) st.same (st.at 0 rfl)
theorem ok_count_boats (A : All K mg) (c_validate_all : Cal P w K mg base 5 "validate_all" (spVState K)) (c_validate_count : Cal P w K mg base 1 "validate_count" spVCount) (c_count_flow : Cal P w K mg base 2 "count_flow" (spFlow K)) (c_queue_lengths : Cal P w K mg base 1 "queue_lengths" (spQLens K)) : Cal P w K mg base 6 "count_boats" (spCBoats K) := by
  refine cal_of A.d_count_boats sc_count_boats (fun _ _ _ _ _ _ us hl => match us, hl with | [_, _, _], _ => rfl) (fun vs H Q E h => ?_) (fun f cdv A' outer s H0 vs Q E hr h => ?_)
  · obtain ⟨nv, sv, net, n, qs, c, rfl, _⟩ := h
    rfl
  · obtain ⟨nv, sv, net, n, qs, c, rfl, hn, hs, ok, so, c0, c1, k⟩ := h
    obtain ⟨tM, h_MAX_ARRIVALS⟩ := A.c_MAX_ARRIVALS
    refine ⟨_, (pss_cons (ps_expr (pc c_validate_all hr (by decide) (pa_cons (pv 0) (pa_cons (pv 1) pa_nil))))
 (pss_cons (ps_expr (pc c_validate_count hr (by decide) (pa_cons (pv 2) (pa_cons pe_int (pa_cons (pe_glob (v := .int 1000000000000000000) rfl h_MAX_ARRIVALS ⟨_, rfl⟩) pa_nil)))))
 (pss_one (ps_ret (pe_ix (k_ixT (K := K) rfl) (pc c_count_flow hr (by decide) (pa_cons (pv 0) (pa_cons (pc c_queue_lengths hr (by decide) (pa_cons (pv 1) pa_nil)) (pa_cons (pv 2) pa_nil)))) pe_int (fun _ _ => rfl)))))), ?_⟩
    walk_at "begin"
    refine ⟨_, _, net, n, qs, rfl, hn, hs, ok, so, fun H1 e1 => ?_⟩
    walk_at "go"
    refine ⟨_, _, _, rfl, c0, c1, ?_⟩
    walk_at "go"
    refine ⟨_, n, qs, rfl, Dt.keep (TK.same e1) _ _ hs, by have := so.len; have := ok.le; omega, fun l H2 hl e2 hl2 => ?_⟩
    walk_at "go"
    refine ⟨_, l, net, lensOf qs, c, rfl, Dt.keep (TK.same (e1.trans e2)) _ _ hn, ok, SqL.of hl2, by unfold lensOf; rw [List.length_map]; exact so.len, fun p j b H3 e3 nj nb jb hp hj hb => ?_⟩
    walk_at "go"
    refine i_ixT (xs := [.ref j, .ref b]) (SqT.of hp) (v := .ref b) rfl ?_
    walk_at "go"
    exact k b _ ((e1.trans e2).free nb) ((e1.trans e2).trans e3) hb
theorem ok_count_finished (A : All K mg) (c_validate_all : Cal P w K mg base 5 "validate_all" (spVState K)) (c_validate_count : Cal P w K mg base 1 "validate_count" spVCount) (c_count_flow : Cal P w K mg base 2 "count_flow" (spFlow K)) (c_queue_lengths : Cal P w K mg base 1 "queue_lengths" (spQLens K)) (c_finished_by : Cal P w K mg base 2 "finished_by" (spFin K)) : Cal P w K mg base 6 "count_finished" (spCFin K) := by
  refine cal_of A.d_count_finished sc_count_finished (fun _ _ _ _ _ _ us hl => match us, hl with | [_, _, _], _ => rfl) (fun vs H Q E h => ?_) (fun f cdv A' outer s H0 vs Q E hr h => ?_)
  · obtain ⟨nv, sv, net, n, qs, c, rfl, _⟩ := h
    rfl
  · obtain ⟨nv, sv, net, n, qs, c, rfl, hn, hs, ok, so, c0, c1, k⟩ := h
    obtain ⟨tM, h_MAX_ARRIVALS⟩ := A.c_MAX_ARRIVALS
    refine ⟨_, (pss_cons (ps_expr (pc c_validate_all hr (by decide) (pa_cons (pv 0) (pa_cons (pv 1) pa_nil))))
 (pss_cons (ps_expr (pc c_validate_count hr (by decide) (pa_cons (pv 2) (pa_cons pe_int (pa_cons (pe_glob (v := .int 1000000000000000000) rfl h_MAX_ARRIVALS ⟨_, rfl⟩) pa_nil)))))
 (pss_one (ps_ret (pc c_finished_by hr (by decide) (pa_cons (pv 0) (pa_cons (pe_ix (k_ixT (K := K) rfl) (pc c_count_flow hr (by decide) (pa_cons (pv 0) (pa_cons (pc c_queue_lengths hr (by decide) (pa_cons (pv 1) pa_nil)) (pa_cons (pv 2) pa_nil)))) pe_int (fun _ _ => rfl)) pa_nil))))))), ?_⟩
    walk_at "begin"
    refine ⟨_, _, net, n, qs, rfl, hn, hs, ok, so, fun H1 e1 => ?_⟩
    walk_at "go"
    refine ⟨_, _, _, rfl, c0, c1, ?_⟩
    walk_at "go"
    refine ⟨_, n, qs, rfl, Dt.keep (TK.same e1) _ _ hs, by have := so.len; have := ok.le; omega, fun l H2 hl e2 hl2 => ?_⟩
    walk_at "go"
    have hll : (lensOf qs).length = net.length := by unfold lensOf; rw [List.length_map]; exact so.len
    refine ⟨_, l, net, lensOf qs, c, rfl, Dt.keep (TK.same (e1.trans e2)) _ _ hn, ok, SqL.of hl2, hll, fun p j b H3 e3 nj nb jb hp hj hb => ?_⟩
    walk_at "go"
    refine i_ixT (xs := [.ref j, .ref b]) (SqT.of hp) (v := .ref b) rfl ?_
    walk_at "go"
    have e13 := (e1.trans e2).trans e3
    refine ⟨_, b, net, (flow net (lensOf qs) c).2, rfl, Dt.keep (TK.same e13) _ _ hn, ok, SqL.of hb, flowN_len2 _ _ _ _, fun q H4 hq e4 hd => ?_⟩
    exact k q _ (e13.free hq) (e13.trans e4) hd
end
end Fb

namespace Fb
open PySem PySem.Spec PyProof.Rows L2
/-! ### the source of draws -/
def rngL (h c : Addr) (m i : Int) (cells : List Int) (L : List (Addr × HO)) : List (Addr × HO) := (h, .lst [.int m, .ref c, .int i]) :: (c, .lst (iV cells)) :: L
def Rg (H : Hp) (h c : Addr) : Prop := ∃ m i cells, H h = some (.lst [.int m, .ref c, .int i]) ∧ H c = some (.lst (iV cells)) ∧ cells.length ≤ 63
theorem Rg.ne {H : Hp} {h c : Addr} (r : Rg H h c) : h ≠ c := fun e => by
  obtain ⟨m, i, cells, h1, h2, _⟩ := r
  subst e
  rw [h1] at h2
  have := Option.some.inj h2
  have := HO.lst.inj this
  unfold iV at this
  cases cells with
  | nil => cases this
  | cons a r =>
    cases r with
    | nil => simp at this
    | cons b r => simp at this
theorem Rg.start {H : Hp} {h c : Addr} (r : Rg H h c) : ∃ m i cells, cells.length ≤ 63 ∧ Stt [h, c] H (rngL h c m i cells []) [] H := by
  have ne := r.ne
  obtain ⟨m, i, cells, h1, h2, h3⟩ := r
  refine ⟨m, i, cells, h3, Stt.start [h, c] _ H (fun p hp => ?_) rfl (by simp [ne])⟩
  rcases List.mem_cons.mp hp with e | hp
  · rw [e]; exact ⟨h1, trivial⟩
  · rw [List.mem_singleton.mp hp]; exact ⟨h2, trivial⟩
section
variable {B : List Addr} {H0 H H' : Hp} {L : List (Addr × HO)} {P : List (Hp → Prop)} {h c : Addr} {m i : Int} {cells : List Int}
theorem Stt.rg (s : Stt B H0 (rngL h c m i cells L) P H) (hc : cells.length ≤ 63) : Rg H h c := ⟨m, i, cells, s.at 0 rfl, s.at 1 rfl, hc⟩
theorem Stt.rng (s : Stt B H0 (rngL h c m i cells L) P H) (e : ExB [h, c] H H') (r : Rg H' h c) : ∃ m i cells, cells.length ≤ 63 ∧ Stt B H0 (rngL h c m i cells L) P H' := by
  obtain ⟨m', i', cells', h1, h2, h3⟩ := r
  refine ⟨m', i', cells', h3, Stt.upds (L1 := [(h, .lst [.int m, .ref c, .int i]), (c, .lst (iV cells))]) (L1' := [(h, .lst [.int m', .ref c, .int i']), (c, .lst (iV cells'))]) s rfl e (fun p hp => ?_) (fun p hp => ?_)⟩
  · rcases List.mem_cons.mp hp with e | hp
    · rw [e]; exact h1
    · rw [List.mem_singleton.mp hp]; exact h2
  · rcases List.mem_cons.mp hp with e | hp
    · rw [e]; trivial
    · rw [List.mem_singleton.mp hp]; trivial
theorem Stt.exB (s : Stt B H0 L P H) : ExB B H0 H := s.ex
end
def spMix (K : PySem.W.Frag) : Sp := fun vs H Q _ => ∃ (a : Addr) (ns : List Int) (z : Int), vs = [.ref a, .int z] ∧ SqL K H a (iV ns) ∧ ns.length ≤ 63 ∧ ∀ h c H', H h = none → H c = none → Same H H' → Rg H' h c → Q (.ref h) H'
def spNext : Sp := fun vs H Q _ => ∃ (h c : Addr) (lim : Int), vs = [.ref h, .int lim] ∧ Rg H h c ∧ 0 < lim ∧ lim < 2 ^ 63 ∧ ∀ r H', 0 ≤ r → r < lim → ExB [h, c] H H' → Rg H' h c → Q (.int r) H'
theorem st_next {B : List Addr} {H0 H : Hp} {L : List (Addr × HO)} {P : List (Hp → Prop)} {h c : Addr} {m i : Int} {cells : List Int} {lim : Int} {Q : VK} {E : XK} (s : Stt B H0 (rngL h c m i cells L) P H) (hc : cells.length ≤ 63) (h0 : 0 < lim) (h1 : lim < 2 ^ 63)
    (k : ∀ r m i cells H', 0 ≤ r → r < lim → cells.length ≤ 63 → Stt B H0 (rngL h c m i cells L) P H' → Q (.int r) H') : spNext [.ref h, .int lim] H Q E :=
  ⟨h, c, lim, rfl, s.rg hc, h0, h1, fun r H' r0 r1 e rg => by
    obtain ⟨m', i', cells', hc', st⟩ := s.rng e rg
    exact k r m' i' cells' H' r0 r1 hc' st⟩
section
variable {P : Program} {w : World} {K : PySem.W.Frag} {mg : Str → Option Value} {base : Heap}
theorem ok_law_mix (A : All K mg) : Cal P w K mg base 1 "_law_mix" (spMix K) := by
  refine cal_of A.d_law_mix sc_law_mix (fun _ _ _ _ _ _ us hl => match us, hl with | [_, _], _ => rfl) (fun vs H Q E h => ?_) (fun f cdv A' outer s H0 vs Q E hr h => ?_)
  · obtain ⟨a, ns, z, rfl, _⟩ := h
    rfl
  · obtain ⟨a, ns, z, rfl, hs, hl, k⟩ := h
    refine ⟨_, (pss_cons (ps_set (i := 2) sc_law_mix.nd rfl (Or.inl rfl) (pv 1))
 (pss_cons (ps_for PassesOwn.never rfl (k_pl (K := K) rfl (pv 0)) (pg_name (i := 3) sc_law_mix.nd rfl (Or.inl rfl))
 (pss_one (ps_set (i := 2) sc_law_mix.nd rfl (Or.inl rfl) (pe_op op_mod (pe_op op_add (pe_op op_add (pe_op op_mul (pv 2) pe_int) (pe_op op_mod (pv 3) pe_int)) pe_int) pe_int))))
 (pss_one (ps_ret (pe_lst (pa_cons (pv 2) (pa_cons (pe_callTy (T := "list") (k_list (K := K) rfl) (by rfl) A.b_list (by decide +kernel) (pa_cons (pv 0) pa_nil)) (pa_cons pe_int pa_nil)))))))), ?_⟩
    have st : Stt [] H0 [] [] H0 := Stt.init H0
    walk_at "begin"
    refine ⟨a, rfl, ⟨_, hs⟩, ForIt.go (walk_list (xs := iV ns)) (fun i σ H => ∃ x s3, σ = [some (.ref a), some (.int z), some (.int x), s3] ∧ Stt [] H0 [] [] H) ⟨_, _, rfl, st⟩ (fun i σ H _ p => ?_) ?_ ?_⟩
    · obtain ⟨_, _, _, st⟩ := p
      exact st.same.seq hs
    · rintro i x σ H H' hi ⟨x0, s3, rfl, st⟩ ⟨rfl, hx⟩
      obtain ⟨y, rfl⟩ : ∃ y, V.int y = x := by
        unfold iV at hx
        rw [List.getElem?_map] at hx
        cases e : ns[i]? with
        | none => rw [e] at hx; cases hx
        | some y => rw [e] at hx; exact ⟨y, Option.some.inj hx⟩
      walk_at "go"
      refine i_I (.inr ⟨by decide, by decide⟩) ?_
      walk_at "go"
      refine i_I (by decide) ?_
      walk_at "go"
      refine i_I (by decide) ?_
      walk_at "go"
      exact ⟨_, _, rfl, st⟩
    · rintro σ H ⟨x0, s3, rfl, st⟩
      walk_at "go"
      refine st_list st (ys := iV ns) (.inl (st.same.seq hs)) fun c H' hc st' => ?_
      walk_at "go"
      refine st_newL st' (by simp) fun h nh st' => ?_
      refine k h c _ (st'.isNew 1 rfl) (st'.isNew 0 rfl) st'.same ⟨_, _, ns, st'.at 1 rfl, st'.at 0 rfl, hl⟩
theorem ok_law_next (A : All K mg) : Cal P w K mg base 1 "_law_next" spNext := by
  refine cal_of A.d_law_next sc_law_next (fun _ _ _ _ _ _ us hl => match us, hl with | [_, _], _ => rfl) (fun vs H Q E h => ?_) (fun f cdv A' outer s H0 vs Q E hr h => ?_)
  · obtain ⟨h, c, lim, rfl, _⟩ := h
    rfl
  · obtain ⟨h, c, lim, rfl, rg, l0, l1, k⟩ := h
    obtain ⟨m, i, cells, hc, st⟩ := rg.start
    refine ⟨_, (pss_cons (ps_set (i := 2) sc_law_next.nd rfl (Or.inl rfl) (pe_ix (k_ixL (K := K) rfl) (pe_op op_cat (pe_ix (k_ixL (K := K) rfl) (pv 0) pe_int (fun _ _ => rfl)) (pe_lst (pa_cons pe_int pa_nil))) (pe_op op_mod (pe_callTy (T := "int") f_int (by rfl) A.b_int (by decide +kernel) (pa_cons (pe_ix (k_ixL (K := K) rfl) (pv 0) pe_int (fun _ _ => rfl)) pa_nil)) (pe_callB (id := "max") (f_max rfl) (by rfl) A.b_max (by decide +kernel) (pa_cons pe_int (pa_cons (pe_callB (id := "len") (k_len (K := K) rfl) (by rfl) A.b_len (by decide +kernel) (pa_cons (pe_ix (k_ixL (K := K) rfl) (pv 0) pe_int (fun _ _ => rfl)) pa_nil)) pa_nil)))) (fun _ _ => rfl)))
 (pss_cons (ps_if (pt_cmpR op_ge (pv 2) (pe_op op_pow pe_int pe_int) (nomark _)) (pss_cons (ps_asg (pe_op op_fdivW (pv 2) (pv 1)) (pg_sub (pe_ix (k_ixL (K := K) rfl) (pv 0) pe_int (fun _ _ => rfl)) (pe_op op_mod (pe_callTy (T := "int") f_int (by rfl) A.b_int (by decide +kernel) (pa_cons (pe_ix (k_ixL (K := K) rfl) (pv 0) pe_int (fun _ _ => rfl)) pa_nil)) (pe_callB (id := "len") (k_len (K := K) rfl) (by rfl) A.b_len (by decide +kernel) (pa_cons (pe_ix (k_ixL (K := K) rfl) (pv 0) pe_int (fun _ _ => rfl)) pa_nil))) set_list))
 (pss_one (ps_ret (pe_op op_mod (pe_callTy (T := "int") f_int (by rfl) A.b_int (by decide +kernel) (pa_cons (pv 2) pa_nil)) (pv 1))))) pss_nil)
 (pss_cons (ps_asg (pe_op op_mod (pe_op op_add (pe_op op_add (pe_op op_mul (pe_ix (k_ixL (K := K) rfl) (pv 0) pe_int (fun _ _ => rfl)) pe_int) (pe_op op_mul (pv 2) pe_int)) pe_int) pe_int) (pg_sub (pv 0) pe_int set_list))
 (pss_cons (ps_asg (pe_op op_add (pe_ix (k_ixL (K := K) rfl) (pv 0) pe_int (fun _ _ => rfl)) pe_int) (pg_sub (pv 0) pe_int set_list))
 (pss_one (ps_ret (pe_op op_mod (pe_op op_fdiv (pe_ix (k_ixL (K := K) rfl) (pv 0) pe_int (fun _ _ => rfl)) pe_int) (pv 1)))))))), ?_⟩
    walk_at "begin"
    refine i_ixL (xs := [.int m, .ref c, .int i]) (by walk_at "sq") (v := .ref c) rfl ?_
    walk_at "go"
    refine st_newL st (by simp) fun t1 n1 st => ?_
    walk_at "go"
    refine st_cat st (xs := iV cells) (zs := [.int 0]) (by walk_at "at") (by walk_at "at") (by rw [iV_len]; simp; omega) fun t2 H n2 e2 st => ?_
    have ec : iV cells ++ [V.int 0] = iV (cells ++ [0]) := by simp [iV]
    rw [ec] at st
    walk_at "go"
    refine i_ixL (xs := [.int m, .ref c, .int i]) (by walk_at "sq") (v := .int i) rfl ?_
    walk_at "go"
    refine i_ixL (xs := [.int m, .ref c, .int i]) (by walk_at "sq") (v := .ref c) rfl ?_
    walk_at "go"
    refine i_lenL (xs := iV cells) (by walk_at "sq") ?_
    walk_at "go"
    rw [iV_len]
    refine i_I (show (0 : Int) < max 1 (cells.length : Int) by omega) ?_
    walk_at "go"
    have hmx : (0 : Int) < max 1 (cells.length : Int) := by omega
    have q0 : 0 ≤ i % max 1 (cells.length : Int) := Int.emod_nonneg _ (by omega)
    have q1 : i % max 1 (cells.length : Int) < max 1 (cells.length : Int) := Int.emod_lt_of_pos _ hmx
    obtain ⟨v, hv, hvm⟩ := atI_mem (xs := iV (cells ++ [0])) q0 (by rw [iV_len, List.length_append]; simp; omega)
    obtain ⟨cell, hcm, rfl⟩ : ∃ cell, cell ∈ cells ++ [0] ∧ V.int cell = v := List.mem_map.mp hvm
    have hz : 1000000000000000000 ≤ cell → 0 < cells.length := fun hge => by
      rcases Nat.eq_zero_or_pos cells.length with h0 | h0
      · have : cells = [] := List.length_eq_zero_iff.mp h0
        subst this
        simp at hcm
        omega
      · exact h0
    refine i_ixL (xs := iV (cells ++ [0])) (by walk_at "sq") hv ?_
    have st := st.picks [0, 1] (by decide) (L' := rngL h c m i cells []) rfl
    walk_at "go"
    refine i_I ⟨by decide, by decide, by decide⟩ ?_
    walk_at "go"
    have ep : (10 : Int) ^ (18 : Int).toNat = 1000000000000000000 := by decide
    rw [ep]
    refine ite2 (fun h1 => ?_) (fun h1 => ?_)
    · have h1 : 1000000000000000000 ≤ cell := of_decide_eq_true h1
      have hcp := hz h1
      have hlim : lim.natAbs < 2 ^ 64 := by omega
      walk_at "go"
      refine i_I (wide_div l0 hlim (by decide) (by decide)) ?_
      walk_at "go"
      refine i_ixL (xs := [.int m, .ref c, .int i]) (by walk_at "sq") (v := .ref c) rfl ?_
      walk_at "go"
      refine i_ixL (xs := [.int m, .ref c, .int i]) (by walk_at "sq") (v := .int i) rfl ?_
      walk_at "go"
      refine i_ixL (xs := [.int m, .ref c, .int i]) (by walk_at "sq") (v := .ref c) rfl ?_
      walk_at "go"
      refine i_lenL (xs := iV cells) (by walk_at "sq") ?_
      walk_at "go"
      rw [iV_len]
      refine i_I (show (0 : Int) < (cells.length : Int) by omega) ?_
      refine st_setL st 1 rfl (ixN_nat (Int.emod_nonneg _ (by omega)) (by rw [iV_len]; exact Int.emod_lt_of_pos _ (by omega))) fun H st => ?_
      have es : (iV cells).set (i % (cells.length : Int)).toNat (V.int (cell / lim)) = iV (cells.set (i % (cells.length : Int)).toNat (cell / lim)) := by simp [iV, List.map_set]
      rw [es] at st
      have st := st.picks [0, 1] (by decide) (L' := rngL h c m i (cells.set (i % (cells.length : Int)).toNat (cell / lim)) []) rfl
      walk_at "go"
      refine i_I l0 ?_
      exact k _ _ (Int.emod_nonneg _ (by omega)) (Int.emod_lt_of_pos _ l0) st.exB (st.rg (by rw [List.length_set]; exact hc))
    · walk_at "go"
      refine i_ixL (xs := [.int m, .ref c, .int i]) (by walk_at "sq") (v := .int m) rfl ?_
      walk_at "go"
      refine i_I (.inr ⟨by decide, by decide⟩) ?_
      walk_at "go"
      refine i_I (.inr ⟨by decide, by decide⟩) ?_
      walk_at "go"
      refine i_I (by decide) ?_
      walk_at "go"
      refine st_setL st 0 rfl (j := 0) rfl fun H st => ?_
      generalize (m * 48271 + cell * 69621 + 11) % 2147483647 = m1 at st ⊢
      have st := st.picks [0, 1] (by decide) (L' := rngL h c m1 i cells []) rfl
      walk_at "go"
      refine i_ixL (xs := [.int m1, .ref c, .int i]) (by walk_at "sq") (v := .int i) rfl ?_
      walk_at "go"
      refine st_setL st 0 rfl (j := 2) rfl fun H st => ?_
      have st := st.picks [0, 1] (by decide) (L' := rngL h c m1 (i + 1) cells []) rfl
      walk_at "go"
      refine i_ixL (xs := [.int m1, .ref c, .int (i + 1)]) (by walk_at "sq") (v := .int m1) rfl ?_
      walk_at "go"
      refine i_I ⟨by decide, by decide⟩ ?_
      walk_at "go"
      refine i_I l0 ?_
      exact k _ _ (Int.emod_nonneg _ (by omega)) (Int.emod_lt_of_pos _ l0) st.exB (st.rg hc)
end
end Fb

namespace Fb
open PySem PySem.Spec PyProof.Rows L2
/-- the names of ports that are drawn -/
def P4 : List Key := [.inr "a", .inr "b", .inr "west", .inr "abcdefgh"]
def spPlace : Sp := fun vs H Q _ => ∃ (h c : Addr) (i n : Nat), vs = [.ref h, .int i, .int n] ∧ Rg H h c ∧ i < n ∧ n ≤ 1000 ∧ ∀ k H', okPlace n i k → (isP k = true → k ∈ P4) → ExB [h, c] H H' → Rg H' h c → Q (kV k) H'
def spNet (K : PySem.W.Frag) : Sp := fun vs H Q _ => ∃ (h c : Addr) (n : Int), vs = [.ref h, .int n] ∧ Rg H h c ∧ 1 ≤ n ∧ n ≤ 40 ∧ ∀ v net H', Dt K H' v (netD net) → NetOk net → (∀ seats ∈ net, ∀ k ∈ seats, isP k = true → k ∈ P4) → (net.length : Int) ≤ n → ExB [h, c] H H' → Rg H' h c → Q v H'
theorem port_a : okPlace n i (.inr "a") := ⟨by decide, by decide, by decide +kernel⟩
theorem port_b : okPlace n i (.inr "b") := ⟨by decide, by decide, by decide +kernel⟩
theorem port_w : okPlace n i (.inr "west") := ⟨by decide, by decide, by decide +kernel⟩
theorem port_h : okPlace n i (.inr "abcdefgh") := ⟨by decide, by decide, by decide +kernel⟩
section
variable {P : Program} {w : World} {K : PySem.W.Frag} {mg : Str → Option Value} {base : Heap}
theorem ok_law_place (A : All K mg) (c_law_next : Cal P w K mg base 1 "_law_next" spNext) : Cal P w K mg base 2 "_law_place" spPlace := by
  refine cal_of A.d_law_place sc_law_place (fun _ _ _ _ _ _ us hl => match us, hl with | [_, _, _], _ => rfl) (fun vs H Q E h => ?_) (fun f cdv A' outer s H0 vs Q E hr h => ?_)
  · obtain ⟨h, c, i, n, rfl, _⟩ := h
    rfl
  · obtain ⟨h, c, i, n, rfl, rg, hin, hn, k⟩ := h
    obtain ⟨m, j, cells, hc, st⟩ := rg.start
    refine ⟨_, (pss_cons (ps_if (PW.pt (pw_and (pt_cmpR op_lt (pe_op op_add (pv 1) pe_int) (pv 2) (nomark _)) (pw_and1 (pt_cmpR op_gt (pc c_law_next hr (by decide) (pa_cons (pv 0) (pa_cons pe_int pa_nil))) pe_int (nomark _))))) (pss_cons (ps_set (i := 3) sc_law_place.nd rfl (Or.inl rfl) (pe_ix (k_ixL (K := K) rfl) (pe_lst (pa_cons pe_int (pa_cons pe_int (pa_cons (pv 2) pa_nil)))) (pc c_law_next hr (by decide) (pa_cons (pv 0) (pa_cons pe_int pa_nil))) (fun _ _ => rfl)))
 (pss_one (ps_ret (pe_op op_add (pe_op op_add (pv 1) pe_int) (pc c_law_next hr (by decide) (pa_cons (pv 0) (pa_cons (pe_callB (id := "max") (f_max rfl) (by rfl) A.b_max (by decide +kernel) (pa_cons pe_int (pa_cons (pe_callB (id := "min") (f_min rfl) (by rfl) A.b_min (by decide +kernel) (pa_cons (pv 3) (pa_cons (pe_op op_sub (pe_op op_sub (pv 2) (pv 1)) pe_int) pa_nil))) pa_nil))) pa_nil))))))) pss_nil)
 (pss_one (ps_ret (pe_ix (k_ixL (K := K) rfl) (pe_lst (pa_cons pe_str (pa_cons pe_str (pa_cons pe_str (pa_cons pe_str pa_nil))))) (pc c_law_next hr (by decide) (pa_cons (pv 0) (pa_cons pe_int pa_nil))) (fun _ _ => rfl))))), ?_⟩
    -- the ports
    have ports : ∀ {m j : Int} {cells : List Int} {H : Hp}, cells.length ≤ 63 → Stt [h, c] H0 (rngL h c m j cells []) [] H →
        (tRet (tOp (rIxL K) (tLst (tCons (tC (.str "a")) (tCons (tC (.str "b")) (tCons (tC (.str "west")) (tCons (tC (.str "abcdefgh")) tNil))))) (tCall spNext [] E0 (tCons (tVar 0) (tCons (tC (.int 4)) tNil)))) ⟨fun _ H' => Q .non H', Q, fun _ _ => False, fun _ _ => False⟩ (L2.start ["_law_h", "_law_station", "_law_count", "_law_far"] [.ref h, .int i, .int n]) H) := by
      intro m j cells H hc st
      walk_at "go"
      refine st_newL st (by simp) fun l nl st => ?_
      walk_at "go"
      refine st_next (L := [(l, .lst [.str "a", .str "b", .str "west", .str "abcdefgh"])]) st hc (by decide) (by decide) fun r m j cells H r0 r1 hc st => ?_
      walk_at "go"
      obtain ⟨v, hv, hm⟩ := atI_mem (xs := [V.str "a", V.str "b", V.str "west", V.str "abcdefgh"]) r0 (by simpa using r1)
      refine i_ixL (by walk_at "sq") hv ?_
      have st := st.picks [0, 1] (by decide) (L' := rngL h c m j cells []) rfl
      simp only [List.mem_cons, List.not_mem_nil, or_false] at hm
      rcases hm with rfl | rfl | rfl | rfl
      · exact k (.inr "a") _ port_a (fun _ => by simp [P4]) st.exB (st.rg hc)
      · exact k (.inr "b") _ port_b (fun _ => by simp [P4]) st.exB (st.rg hc)
      · exact k (.inr "west") _ port_w (fun _ => by simp [P4]) st.exB (st.rg hc)
      · exact k (.inr "abcdefgh") _ port_h (fun _ => by simp [P4]) st.exB (st.rg hc)
    walk_at "begin"
    refine ite2 (fun h1 => ?_) (fun h1 => ?_)
    · have h1 : (i : Int) + 1 < n := of_decide_eq_true h1
      walk_at "go"
      refine st_next st hc (by decide) (by decide) fun r m j cells H r0 r1 hc st => ?_
      walk_at "go"
      refine ite2 (fun h2 => ?_) (fun h2 => ?_)
      · walk_at "go"
        refine st_newL st (by simp) fun l nl st => ?_
        walk_at "go"
        refine st_next (L := [(l, .lst [.int 1, .int 2, .int n])]) st hc (by decide) (by decide) fun r2 m j cells H r20 r21 hc st => ?_
        walk_at "go"
        obtain ⟨v, hv, hm⟩ := atI_mem (xs := [V.int 1, V.int 2, V.int n]) r20 (by simpa using r21)
        refine i_ixL (by walk_at "sq") hv ?_
        have st := st.picks [0, 1] (by decide) (L' := rngL h c m j cells []) rfl
        obtain ⟨far, rfl⟩ : ∃ far : Int, v = .int far := by
          simp only [List.mem_cons, List.not_mem_nil, or_false] at hm
          rcases hm with rfl | rfl | rfl <;> exact ⟨_, rfl⟩
        walk_at "go"
        refine st_next st hc (by omega) (by omega) fun r3 m j cells H r30 r31 hc st => ?_
        walk_at "go"
        refine k (.inl _) _ ⟨by omega, by omega⟩ (fun h => by cases h) st.exB (st.rg hc)
      · walk_at "go"
        exact ports hc st
    · refine iteF ?_
      walk_at "go"
      exact ports hc st
theorem ok_law_network (A : All K mg) (c_law_next : Cal P w K mg base 1 "_law_next" spNext) (c_law_place : Cal P w K mg base 2 "_law_place" spPlace) : Cal P w K mg base 3 "_law_network" (spNet K) := by
  refine cal_of A.d_law_network sc_law_network (fun _ _ _ _ _ _ us hl => match us, hl with | [_, _], _ => rfl) (fun vs H Q E h => ?_) (fun f cdv A' outer s H0 vs Q E hr h => ?_)
  · obtain ⟨h, c, n, rfl, _⟩ := h
    rfl
  · obtain ⟨h, c, n, rfl, rg, n0, n1, k⟩ := h
    obtain ⟨m, j, cells, hc, st⟩ := rg.start
    refine ⟨_, (pss_cons (ps_set (i := 2) sc_law_network.nd rfl (Or.inr rfl) (pe_op op_add pe_int (pc c_law_next hr (by decide) (pa_cons (pv 0) (pa_cons (pv 1) pa_nil)))))
 (pss_cons (ps_set (i := 3) sc_law_network.nd rfl (Or.inl rfl) (pe_lst pa_nil))
 (pss_cons (ps_for PassesOwn.never rfl (pi_range1 (by rfl) A.b_range (pa_cons (pv 2) pa_nil)) (pg_name (i := 4) sc_law_network.nd rfl (Or.inr rfl))
 (pss_cons (ps_set (i := 5) sc_law_network.nd rfl (Or.inl rfl) (pe_op op_add pe_int (pc c_law_next hr (by decide) (pa_cons (pv 0) (pa_cons (pe_ix (k_ixL (K := K) rfl) (pe_lst (pa_cons pe_int (pa_cons pe_int (pa_cons pe_int pa_nil)))) (pc c_law_next hr (by decide) (pa_cons (pv 0) (pa_cons pe_int pa_nil))) (fun _ _ => rfl)) pa_nil)))))
 (pss_one (ps_expr (pe_bm PySem.F.plainAttrs_list PySem.F.slot_list_append PySem.F.type_list_append mt_append (pv 3) (pa_cons (pe_callTy (T := "tuple") (k_tuple (K := K) rfl) (by rfl) A.b_tuple (by decide +kernel) (pa_cons (pe_lc rfl sc_law_network.nd (pi_range1 (by rfl) A.b_range (pa_cons (pv 5) pa_nil)) (blkOk_by (own := [("_law_seat", 6)]) (N := ["_law_h", "_law_most", "_law_count", "_law_network_here", "_law_station", "_law_seats", "_law_seat"]) (sc := defScope s_law_network) (by decide +kernel)) (fun _ _ _ _ _ => (pg_name (i := 6) sc_law_network.nd rfl (Or.inl rfl))) (fun _ _ _ _ _ => pts_nil) (fun _ _ _ _ _ => (pc c_law_place hr (by decide) (pa_cons (pv 0) (pa_cons (pv 4) (pa_cons (pv 2) pa_nil)))))) pa_nil)) pa_nil))))))
 (pss_one (ps_ret (pe_callTy (T := "tuple") (k_tuple (K := K) rfl) (by rfl) A.b_tuple (by decide +kernel) (pa_cons (pv 3) pa_nil))))))), ?_⟩
    walk_at "begin"
    refine st_next st hc (by omega) (by omega) fun r m j cells H r0 r1 hc st => ?_
    walk_at "go"
    obtain ⟨cn, hcn⟩ : ∃ cn : Nat, (1 : Int) + r = cn := ⟨(1 + r).toNat, by omega⟩
    rw [hcn]
    have hcn1 : 1 ≤ cn := by omega
    have hcn2 : (cn : Int) ≤ n := by omega
    refine st_newL st (by simp) fun nl nn st => ?_
    walk_at "go"
    refine ⟨_, rfl, by omega, by omega, ForIt.go walk_range (fun i σ H => ∃ s4 s5 m j cells vs net, σ = [some (.ref h), some (.int n), some (.int cn), some (.ref nl), s4, s5, none] ∧ cells.length ≤ 63 ∧ Stt [h, c] H0 (rngL h c m j cells [(nl, .lst vs)]) [fun H => DtAll K H vs (net.map seatsD)] H ∧ net.length = i ∧
      (∀ (q : Nat) (seats : List Key), net[q]? = some seats → 1 ≤ seats.length ∧ seats.length ≤ 8 ∧ ∀ k ∈ seats, okPlace cn q k ∧ (isP k = true → k ∈ P4))) ⟨none, none, m, j, cells, [], [], rfl, hc, st.know .nil Pers.all, rfl, fun q seats h => by simp at h⟩ (fun _ _ _ _ _ => trivial) ?_ ?_⟩
    · rintro i v σ H H' hi ⟨s4, s5, m, j, cells, vs, net, rfl, hc, st, hnl, hnet⟩ ⟨rfl, rfl⟩
      walk_at "go"
      refine st_newL st (by simp) fun l nl' st => ?_
      walk_at "go"
      refine st_next (L := [(nl, .lst vs), (l, .lst [.int 2, .int 4, .int 8])]) st hc (by decide) (by decide) fun r2 m j cells H r20 r21 hc st => ?_
      walk_at "go"
      obtain ⟨v, hv, hm⟩ := atI_mem (xs := [V.int 2, V.int 4, V.int 8]) r20 (by simpa using r21)
      refine i_ixL (by walk_at "sq") hv ?_
      have st := st.picks [0, 1, 2] (by decide) (L' := rngL h c m j cells [(nl, .lst vs)]) rfl
      obtain ⟨far, rfl, f1, f8⟩ : ∃ far : Int, v = .int far ∧ 1 ≤ far ∧ far ≤ 8 := by
        simp only [List.mem_cons, List.not_mem_nil, or_false] at hm
        rcases hm with rfl | rfl | rfl
        · exact ⟨2, rfl, by decide, by decide⟩
        · exact ⟨4, rfl, by decide, by decide⟩
        · exact ⟨8, rfl, by decide, by decide⟩
      walk_at "go"
      refine st_next st hc (by omega) (by omega) fun r3 m j cells H r30 r31 hc st => ?_
      walk_at "go"
      obtain ⟨sn, hsn⟩ : ∃ sn : Nat, (1 : Int) + r3 = sn := ⟨(1 + r3).toNat, by omega⟩
      rw [hsn]
      refine i_tyL (xs := vs) (by walk_at "sq") ?_
      walk_at "go"
      rw [Int.zero_add]
      refine ⟨_, rfl, by omega, by omega, LcIt.go walk_range (fun D q H => ∃ (ks : List Key) (m j : Int) (cells : List Int), cells.length ≤ 63 ∧ ks.length = q ∧ (∀ k ∈ ks, okPlace cn i k ∧ (isP k = true → k ∈ P4)) ∧ Stt [h, c] H0 (rngL h c m j cells [(nl, .lst vs), (D, .lst (ks.map kV))]) [fun H => DtAll K H vs (net.map seatsD)] H) (fun D hD => ⟨[], m, j, cells, hc, rfl, fun _ h => absurd h (List.not_mem_nil), st.new (o := .lst []) hD trivial⟩) (fun _ _ _ _ _ => trivial) ?_ ?_⟩
      · rintro D q v H H' hq ⟨ks, m, j, cells, hc, hkl, hks, st⟩ ⟨rfl, rfl⟩
        walk_at "go"
        refine ⟨rfl, ?_⟩
        walk_at "go"
        refine iteT ?_
        walk_at "go"
        refine ⟨h, c, i, cn, rfl, st.rg hc, by omega, by omega, fun ky H' hky hk4 e rg => ?_⟩
        obtain ⟨m, j, cells, hc, st⟩ := st.rng e rg
        refine ⟨ks.map kV, st.at 3 rfl, sz_lt (by rw [List.length_map]; omega), ks ++ [ky], m, j, cells, hc, by rw [List.length_append, hkl]; rfl, fun k hk => ?_, ?_⟩
        · rcases List.mem_append.mp hk with hk | hk
          · exact hks k hk
          · rw [List.mem_singleton.mp hk]; exact ⟨hky, hk4⟩
        · have st := st.set 3 (o' := .lst (ks.map kV ++ [kV ky])) rfl trivial
          rw [List.map_append]
          exact st
      · rintro D H ⟨ks, m, j, cells, hc, hkl, hks, st⟩
        have hkl : ks.length = sn := by omega
        walk_at "go"
        refine st_tupleL st (ys := ks.map kV) (by walk_at "sq") fun tp H' ntp st => ?_
        walk_at "go"
        have hk8 : ks.length ≤ 8 := by omega
        have hk1 : 1 ≤ ks.length := by omega
        have hvl : vs.length = net.length := by rw [(st.pers 0 rfl : DtAll K H' vs (net.map seatsD)).len, List.length_map]
        refine st_append st 2 rfl (by omega) fun H st => ?_
        walk_at "go"
        have d1 : DtAll K H vs (net.map seatsD) := st.pers 0 rfl
        have d2 : TupAt K H tp (ks.map kV) := st.pers 1 rfl
        refine ⟨_, _, m, j, cells, vs ++ [.ref tp], net ++ [ks], rfl, hc, ?_, by rw [List.length_append, hnl]; rfl, fun q seats hq => ?_⟩
        · have st := st.picks [0, 1, 2] (by decide) (L' := rngL h c m j cells [(nl, .lst (vs ++ [.ref tp]))]) rfl
          refine ((st.forget).know (φ := fun H => DtAll K H (vs ++ [.ref tp]) ((net ++ [ks]).map seatsD)) ?_ Pers.all)
          rw [List.map_append]
          exact d1.snoc (.tup d2 (DtAll.of_keys ks))
        · rw [List.getElem?_append] at hq
          split at hq
          · exact hnet q seats hq
          · rename_i hlt
            have hq0 : q - net.length = 0 := by
              have := (List.getElem?_eq_some_iff.mp hq).1
              simp at this
              omega
            rw [hq0] at hq
            obtain rfl : ks = seats := Option.some.inj hq
            have eq : q = i := by omega
            subst eq
            exact ⟨hk1, hk8, hks⟩
    · rintro σ H ⟨s4, s5, m, j, cells, vs, net, rfl, hc, st, hnl, hnet⟩
      have hnl : net.length = cn := by omega
      walk_at "go"
      refine st_tupleL st (ys := vs) (by walk_at "sq") fun tp H' ntp st => ?_
      have d1 : DtAll K H' vs (net.map seatsD) := st.pers 0 rfl
      have d2 : TupAt K H' tp vs := st.pers 1 rfl
      refine k _ net _ (.tup d2 d1) ⟨by omega, by omega, fun i seats hi => ⟨(hnet i seats hi).1, (hnet i seats hi).2.1⟩, fun i seats ky hi hk => by rw [hnl]; exact ((hnet i seats hi).2.2 ky hk).1⟩ (fun seats hs ky hk => by
        obtain ⟨q, hq⟩ := List.getElem?_of_mem hs
        exact ((hnet q seats hq).2.2 ky hk).2) (by omega) st.exB (st.rg hc)
end
end Fb

namespace Fb
open PySem PySem.Spec PyProof.Rows L2
/-! ### two sorted lists of the same texts are one -/
theorem ltCps_false {a b : List Nat} : ltCps b a = false ↔ a ≤ b := by
  rw [ltCps_eq, decide_eq_false_iff_not]
  exact Iff.rfl
theorem rising_pw : ∀ (r : List Str) (p : Str), risingS p r = true → (p :: r).Pairwise (fun a b => a.cps.toList ≤ b.cps.toList)
  | [], p, _ => by simp
  | x :: r, p, h => by
    simp only [risingS, Bool.and_eq_true, Bool.not_eq_true'] at h
    have h1 : p.cps.toList ≤ x.cps.toList := ltCps_false.mp h.1
    have ih := rising_pw r x h.2
    refine List.pairwise_cons.mpr ⟨fun y hy => ?_, ih⟩
    rcases List.mem_cons.mp hy with e | hy
    · rw [e]; exact h1
    · exact List.le_trans h1 ((List.pairwise_cons.mp ih).1 y hy)
theorem sorted_pw {l : List Str} (h : sortedS l = true) : l.Pairwise (fun a b => a.cps.toList ≤ b.cps.toList) := by
  cases l with
  | nil => exact List.Pairwise.nil
  | cons x r => exact rising_pw r x h
theorem sorted_one {a b : List Str} (p : a.Perm b) (ha : sortedS a = true) (hb : sortedS b = true) : a = b :=
  p.eq_of_pairwise (fun x y _ _ h1 h2 => by
    have := List.le_antisymm h1 h2
    exact PyProof.Rows.ext_toList this) (sorted_pw ha) (sorted_pw hb)
/-! ### data that are alike -/
def flatA : V → Bool
  | .non => true
  | .bl _ => true
  | .int _ => true
  | .str _ => true
  | _ => false
def AlV (K : PySem.W.Frag) (H : Hp) : Nat → V → V → Prop
  | 0 => fun _ _ => False
  | n + 1 => fun x y => (x = y ∧ flatA x = true) ∨ (∃ (kd : Bool) (a b : Addr) (xs ys : List V), x = .ref a ∧ y = .ref b ∧ SqB kd K H a xs ∧ SqB kd K H b ys ∧ xs.length ≤ 90000 ∧ Paired (AlV K H n) xs ys) ∨
    (∃ (a b : Addr) (ks ls : List (Key × V)) (kk ll : List Str), x = .ref a ∧ y = .ref b ∧ H a = some (.dK ks) ∧ H b = some (.dK ls) ∧ ks.map (·.1) = kk.map Sum.inr ∧ ls.map (·.1) = ll.map Sum.inr ∧ ll.Perm kk ∧ kk.length < 64 ∧ EqR K H (EqV K H 8) x y ∧ 2 ≤ n)
theorem EqV.same {K : PySem.W.Frag} {H H' : Hp} (e : Same H H') : ∀ n x y, EqV K H n x y → EqV K H' n x y := by
  intro n
  induction n with
  | zero => intro x y h; exact h
  | succ n ih =>
    intro x y h
    rcases h with h | h | h
    · exact .inl h
    · exact .inr (.inl h)
    · refine .inr (.inr ?_)
      rcases h with ⟨a, b, xs, ys, e1, e2, h1, h2, p⟩ | ⟨a, b, ks, ls, e1, e2, h1, h2, hl, p⟩
      · exact .inl ⟨a, b, xs, ys, e1, e2, e.seq h1, e.seq h2, Paired.mapP p ih⟩
      · exact .inr ⟨a, b, ks, ls, e1, e2, e _ _ h1, e _ _ h2, hl, fun q hq => let ⟨u, g1, g2⟩ := p q hq; ⟨u, g1, ih _ _ g2⟩⟩
theorem EqR.same {K : PySem.W.Frag} {H H' : Hp} (e : Same H H') {n : Nat} {x y : V} (h : EqR K H (EqV K H n) x y) : EqR K H' (EqV K H' n) x y := by
  rcases h with ⟨a, b, xs, ys, e1, e2, h1, h2, p⟩ | ⟨a, b, ks, ls, e1, e2, h1, h2, hl, p⟩
  · exact .inl ⟨a, b, xs, ys, e1, e2, e.seq h1, e.seq h2, Paired.mapP p (EqV.same e n)⟩
  · exact .inr ⟨a, b, ks, ls, e1, e2, e _ _ h1, e _ _ h2, hl, fun q hq => let ⟨u, g1, g2⟩ := p q hq; ⟨u, g1, EqV.same e n _ _ g2⟩⟩
theorem AlV.same {K : PySem.W.Frag} {H H' : Hp} (e : Same H H') : ∀ n x y, AlV K H n x y → AlV K H' n x y := by
  intro n
  induction n with
  | zero => intro x y h; exact h
  | succ n ih =>
    intro x y h
    rcases h with h | ⟨kd, a, b, xs, ys, e1, e2, h1, h2, hl, p⟩ | ⟨a, b, ks, ls, kk, ll, e1, e2, h1, h2, g1, g2, g3, g4, g5, g6⟩
    · exact .inl h
    · exact .inr (.inl ⟨kd, a, b, xs, ys, e1, e2, h1.seq e, h2.seq e, hl, Paired.mapP p ih⟩)
    · exact .inr (.inr ⟨a, b, ks, ls, kk, ll, e1, e2, e _ _ h1, e _ _ h2, g1, g2, g3, g4, EqR.same e g5, g6⟩)
def spAl (K : PySem.W.Frag) (n : Nat) : Sp := fun vs H Q _ => ∃ (x y : V), vs = [x, y] ∧ AlV K H n x y ∧ ∀ H', Same H H' → Q (.bl true) H'
theorem Paired.at {α β : Type} {R : α → β → Prop} : ∀ {xs : List α} {ys : List β} {i : Nat} {x : α} {y : β}, Paired R xs ys → xs[i]? = some x → ys[i]? = some y → R x y
  | _, _, _, _, _, .nil, h, _ => by simp at h
  | _, _, 0, _, _, .cons r _, h, h' => by
    simp at h h'
    subst h h'
    exact r
  | _, _, i + 1, _, _, .cons _ t, h, h' => Paired.at (i := i) t (by simpa using h) (by simpa using h')
section
variable {P : Program} {w : World} {K : PySem.W.Frag} {mg : Str → Option Value} {base : Heap}
theorem ok_law_alike (A : All K mg) (n : Nat) : Cal P w K mg base (n + 1) "_law_alike" (spAl K n) := by
  induction n with
  | zero =>
    refine cal_of A.d_law_alike sc_law_alike (fun _ _ _ _ _ _ us hl => match us, hl with | [_, _], _ => rfl) (fun vs H Q E h => ?_) (fun f cdv A' outer s H0 vs Q E hr h => ?_)
    · obtain ⟨x, y, rfl, _⟩ := h
      rfl
    · obtain ⟨x, y, rfl, h, _⟩ := h
      exact h.elim
  | succ n c_law_alike =>
    refine cal_of A.d_law_alike sc_law_alike (fun _ _ _ _ _ _ us hl => match us, hl with | [_, _], _ => rfl) (fun vs H Q E h => ?_) (fun f cdv A' outer s H0 vs Q E hr h => ?_)
    · obtain ⟨x, y, rfl, _⟩ := h
      rfl
    · obtain ⟨x, y, rfl, h, k⟩ := h
      have hk : n + 1 ≤ n + 1 := Nat.le_refl _
      have hu64 := hr.units
      have hu := hu_of hr
      refine ⟨_, (pss_cons (ps_if (pt_val (pe_callB (id := "isinstance") (k_isi (K := K) rfl) (by rfl) A.b_isinstance (by decide +kernel) (pa_cons (pv 1) (pa_cons (pe_bltn (v := .ty "dict") (u := .type "dict") (by rfl) A.b_dict (by decide +kernel) rfl) pa_nil)))) (pss_one (ps_ret (pe_and (pe_callB (id := "isinstance") (k_isi (K := K) rfl) (by rfl) A.b_isinstance (by decide +kernel) (pa_cons (pv 0) (pa_cons (pe_bltn (v := .ty "dict") (u := .type "dict") (by rfl) A.b_dict (by decide +kernel) rfl) pa_nil))) (pe_and (pc c_law_alike hr hk (pa_cons (pe_callB (id := "sorted") (f_sortD rfl) (by rfl) A.b_sorted (by decide +kernel) (pa_cons (pv 0) pa_nil)) (pa_cons (pe_callB (id := "sorted") (f_sortD rfl) (by rfl) A.b_sorted (by decide +kernel) (pa_cons (pv 1) pa_nil)) pa_nil))) (pe_one (pe_cmpR (k_eqU (K := K) rfl hu64) (pv 0) (pv 1) (nomark _))))))) pss_nil)
 (pss_cons (ps_if (pt_val (pe_callB (id := "isinstance") (k_isi2 (K := K) rfl) (by rfl) A.b_isinstance (by decide +kernel) (pa_cons (pv 1) (pa_cons (pe_tup (pa_cons (pe_bltn (v := .ty "tuple") (u := .type "tuple") (by rfl) A.b_tuple (by decide +kernel) rfl) (pa_cons (pe_bltn (v := .ty "list") (u := .type "list") (by rfl) A.b_list (by decide +kernel) rfl) pa_nil))) pa_nil)))) (pss_cons (ps_if (PW.pt (pw_or (pt_not (pt_val (pe_callB (id := "isinstance") (k_isi2 (K := K) rfl) (by rfl) A.b_isinstance (by decide +kernel) (pa_cons (pv 0) (pa_cons (pe_tup (pa_cons (pe_bltn (v := .ty "tuple") (u := .type "tuple") (by rfl) A.b_tuple (by decide +kernel) rfl) (pa_cons (pe_bltn (v := .ty "list") (u := .type "list") (by rfl) A.b_list (by decide +kernel) rfl) pa_nil))) pa_nil))))) (pw_or1 (pt_cmpR op_ne (pe_callB (id := "isinstance") (k_isi (K := K) rfl) (by rfl) A.b_isinstance (by decide +kernel) (pa_cons (pv 0) (pa_cons (pe_bltn (v := .ty "list") (u := .type "list") (by rfl) A.b_list (by decide +kernel) rfl) pa_nil))) (pe_callB (id := "isinstance") (k_isi (K := K) rfl) (by rfl) A.b_isinstance (by decide +kernel) (pa_cons (pv 1) (pa_cons (pe_bltn (v := .ty "list") (u := .type "list") (by rfl) A.b_list (by decide +kernel) rfl) pa_nil))) (nomark _))))) (pss_one (ps_ret pe_bl)) pss_nil)
 (pss_cons (ps_if (pt_cmpR op_ne (pe_callB (id := "len") (k_len (K := K) rfl) (by rfl) A.b_len (by decide +kernel) (pa_cons (pv 0) pa_nil)) (pe_callB (id := "len") (k_len (K := K) rfl) (by rfl) A.b_len (by decide +kernel) (pa_cons (pv 1) pa_nil)) (nomark _)) (pss_one (ps_ret pe_bl)) pss_nil)
 (pss_one (ps_ret (pe_cmpR (k_eqD (K := K) rfl hu64) (pe_lc rfl sc_law_alike.nd (pi_range1 (by rfl) A.b_range (pa_cons (pe_callB (id := "len") (k_len (K := K) rfl) (by rfl) A.b_len (by decide +kernel) (pa_cons (pv 1) pa_nil)) pa_nil)) (blkOk_by (own := [("_law_k", 2)]) (N := ["_law_found", "_law_due", "_law_k"]) (sc := defScope s_law_alike) (by decide +kernel)) (fun _ _ _ _ _ => (pg_name (i := 2) sc_law_alike.nd rfl (Or.inl rfl))) (fun _ _ _ _ _ => pts_one (pt_not (pt_val (pc c_law_alike hr hk (pa_cons (pe_ix (k_ix (K := K) rfl) (pv 0) (pv 2) (fun _ _ => rfl)) (pa_cons (pe_ix (k_ix (K := K) rfl) (pv 1) (pv 2) (fun _ _ => rfl)) pa_nil)))))) (fun _ _ _ _ _ => (pv 2))) (pe_lst pa_nil) (nomark _)))))) pss_nil)
 (pss_cons (ps_if (PW.pt (pw_or (pt_cmpR op_isN (pv 1) pe_non (nomark _)) (pw_or1 (pt_val (pe_callB (id := "isinstance") (k_isi (K := K) rfl) (by rfl) A.b_isinstance (by decide +kernel) (pa_cons (pv 1) (pa_cons (pe_bltn (v := .ty "str") (u := .type "str") (by rfl) A.b_str (by decide +kernel) rfl) pa_nil))))))) (pss_one (ps_ret (pe_and (pe_cmpR (k_eqU (K := K) rfl hu64) (pv 0) (pv 1) (nomark _)) (pe_one (pe_cmpR op_eq (pe_callB (id := "isinstance") (k_isi (K := K) rfl) (by rfl) A.b_isinstance (by decide +kernel) (pa_cons (pv 0) (pa_cons (pe_bltn (v := .ty "str") (u := .type "str") (by rfl) A.b_str (by decide +kernel) rfl) pa_nil))) (pe_callB (id := "isinstance") (k_isi (K := K) rfl) (by rfl) A.b_isinstance (by decide +kernel) (pa_cons (pv 1) (pa_cons (pe_bltn (v := .ty "str") (u := .type "str") (by rfl) A.b_str (by decide +kernel) rfl) pa_nil))) (nomark _)))))) pss_nil)
 (pss_one (ps_ret (pe_and (pe_callB (id := "isinstance") (k_isi (K := K) rfl) (by rfl) A.b_isinstance (by decide +kernel) (pa_cons (pv 0) (pa_cons (pe_bltn (v := .ty "int") (u := .type "int") (by rfl) A.b_int (by decide +kernel) rfl) pa_nil))) (pe_and (pe_cmpR op_eq (pe_callB (id := "isinstance") (k_isi (K := K) rfl) (by rfl) A.b_isinstance (by decide +kernel) (pa_cons (pv 0) (pa_cons (pe_bltn (v := .ty "bool") (u := .type "bool") (by rfl) A.b_bool (by decide +kernel) rfl) pa_nil))) (pe_callB (id := "isinstance") (k_isi (K := K) rfl) (by rfl) A.b_isinstance (by decide +kernel) (pa_cons (pv 1) (pa_cons (pe_bltn (v := .ty "bool") (u := .type "bool") (by rfl) A.b_bool (by decide +kernel) rfl) pa_nil))) (nomark _)) (pe_one (pe_cmpR (k_eqU (K := K) rfl hu64) (pv 0) (pv 1) (nomark _)))))))))), ?_⟩
      have st : Stt [] H0 [] [] H0 := Stt.init H0
      walk_at "begin"
      rcases h with ⟨rfl, hf⟩ | ⟨kd, a, b, xs, ys, rfl, rfl, h1, h2, hl, p⟩ | ⟨a, b, ks, ls, kk, ll, rfl, rfl, h1, h2, g1, g2, g3, g4, g5, g6⟩
      · -- flat
        cases x with
        | byt _ => cases hf
        | flt _ => cases hf
        | ref _ => cases hf
        | ty _ => cases hf
        | non =>
          refine i_isN (b := "dict") (k := false) (by decide +kernel) ?_
          walk_at "go"
          refine iteF ?_
          walk_at "go"
          refine st_newT K st (by simp) fun t1 n1 st => ?_
          walk_at "go"
          refine i_is2 (a := "NoneType") (k1 := false) (k2 := false) upd_same (.base .non) (by decide +kernel) (by decide +kernel) ?_
          walk_at "go"
          refine iteF ?_
          walk_at "go"
          refine ⟨rfl, ?_⟩
          walk_at "go"
          refine iteT ?_
          refine iteT ?_
          walk_at "go"
          refine .inl ⟨rfl, ?_⟩
          walk_at "go"
          refine iteT ?_
          walk_at "go"
          refine i_isN (b := "str") (k := false) (by decide +kernel) ?_
          walk_at "go"
          refine i_isN (b := "str") (k := false) (by decide +kernel) ?_
          walk_at "go"
          exact k _ st.same
        | str z =>
          refine i_isS (b := "dict") (k := false) (by decide +kernel) ?_
          walk_at "go"
          refine iteF ?_
          walk_at "go"
          refine st_newT K st (by simp) fun t1 n1 st => ?_
          walk_at "go"
          refine i_is2 (a := "str") (k1 := false) (k2 := false) upd_same (.base (.str z)) (by decide +kernel) (by decide +kernel) ?_
          walk_at "go"
          refine iteF ?_
          walk_at "go"
          refine ⟨rfl, ?_⟩
          walk_at "go"
          refine iteF ?_
          walk_at "go"
          refine i_isS (b := "str") (k := true) (by decide +kernel) ?_
          walk_at "go"
          refine iteT ?_
          walk_at "go"
          refine .inl ⟨rfl, ?_⟩
          walk_at "go"
          rw [decide_eq_true rfl]
          refine iteT ?_
          walk_at "go"
          refine i_isS (b := "str") (k := true) (by decide +kernel) ?_
          walk_at "go"
          refine i_isS (b := "str") (k := true) (by decide +kernel) ?_
          walk_at "go"
          exact k _ st.same
        | int z =>
          refine i_isI (b := "dict") (k := false) (by decide +kernel) ?_
          walk_at "go"
          refine iteF ?_
          walk_at "go"
          refine st_newT K st (by simp) fun t1 n1 st => ?_
          walk_at "go"
          refine i_is2 (a := "int") (k1 := false) (k2 := false) upd_same (.base (.int z)) (by decide +kernel) (by decide +kernel) ?_
          walk_at "go"
          refine iteF ?_
          walk_at "go"
          refine ⟨rfl, ?_⟩
          walk_at "go"
          refine iteF ?_
          walk_at "go"
          refine i_isI (b := "str") (k := false) (by decide +kernel) ?_
          walk_at "go"
          refine iteF ?_
          walk_at "go"
          refine i_isI (b := "int") (k := true) (by decide +kernel) ?_
          walk_at "go"
          refine iteT ?_
          walk_at "go"
          refine i_isI (b := "bool") (k := false) (by decide +kernel) ?_
          walk_at "go"
          refine i_isI (b := "bool") (k := false) (by decide +kernel) ?_
          walk_at "go"
          refine iteT ?_
          walk_at "go"
          refine .inl ⟨rfl, ?_⟩
          rw [decide_eq_true rfl]
          exact k _ st.same
        | bl z =>
          refine i_isB (b := "dict") (k := false) (by decide +kernel) ?_
          walk_at "go"
          refine iteF ?_
          walk_at "go"
          refine st_newT K st (by simp) fun t1 n1 st => ?_
          walk_at "go"
          refine i_is2 (a := "bool") (k1 := false) (k2 := false) upd_same (.base (.bl z)) (by decide +kernel) (by decide +kernel) ?_
          walk_at "go"
          refine iteF ?_
          walk_at "go"
          refine ⟨rfl, ?_⟩
          walk_at "go"
          refine iteF ?_
          walk_at "go"
          refine i_isB (b := "str") (k := false) (by decide +kernel) ?_
          walk_at "go"
          refine iteF ?_
          walk_at "go"
          refine i_isB (b := "int") (k := true) (by decide +kernel) ?_
          walk_at "go"
          refine iteT ?_
          walk_at "go"
          refine i_isB (b := "bool") (k := true) (by decide +kernel) ?_
          walk_at "go"
          refine i_isB (b := "bool") (k := true) (by decide +kernel) ?_
          walk_at "go"
          refine iteT ?_
          walk_at "go"
          refine .inl ⟨rfl, ?_⟩
          rw [decide_eq_true rfl]
          exact k _ st.same
      · -- a list or a tuple
        have hxy : xs.length = ys.length := Paired.length p
        refine i_is (ty_B h2) (k := false) (by cases kd <;> decide +kernel) ?_
        walk_at "go"
        refine iteF ?_
        walk_at "go"
        refine st_newT K st (by simp) fun t1 n1 st => ?_
        walk_at "go"
        refine i_is2 (k1 := !kd) (k2 := kd) upd_same (ty_B (h2.seq st.same)) (by cases kd <;> decide +kernel) (by cases kd <;> decide +kernel) ?_
        walk_at "go"
        rw [show (!kd || kd) = true by cases kd <;> rfl]
        refine iteT ?_
        walk_at "go"
        refine st_newT K st (by simp) fun t2 n2 st => ?_
        walk_at "go"
        refine i_is2 (k1 := !kd) (k2 := kd) upd_same (ty_B (h1.seq st.same)) (by cases kd <;> decide +kernel) (by cases kd <;> decide +kernel) ?_
        walk_at "go"
        rw [show (!kd || kd) = true by cases kd <;> rfl]
        refine iteF ?_
        walk_at "go"
        refine i_is (ty_B (h1.seq st.same)) (k := kd) (by cases kd <;> decide +kernel) ?_
        walk_at "go"
        refine i_is (ty_B (h2.seq st.same)) (k := kd) (by cases kd <;> decide +kernel) ?_
        walk_at "go"
        rw [decide_eq_true rfl]
        refine iteF ?_
        walk_at "go"
        refine i_lenB (h1.seq st.same) ?_
        walk_at "go"
        refine i_lenB (h2.seq st.same) ?_
        walk_at "go"
        rw [hxy, decide_eq_true rfl]
        refine iteF ?_
        walk_at "go"
        refine i_lenB (h2.seq st.same) ?_
        walk_at "go"
        refine ⟨_, rfl, by omega, by omega, LcIt.go walk_range (fun D i H => Stt [] H0 [(D, .lst [])] [] H) (fun D hD => (st.new (o := .lst []) hD trivial).forget) (fun _ _ _ _ _ => trivial) ?_ ?_⟩
        · rintro D i v H H' hi st ⟨rfl, rfl⟩
          walk_at "go"
          refine ⟨rfl, ?_⟩
          have hi1 : i < ys.length := by omega
          have ax : atI xs ((0 : Int) + (i : Nat)) = some (xs[i]'(by omega)) := by rw [Int.zero_add]; exact atI_nat (by simp)
          have ay : atI ys ((0 : Int) + (i : Nat)) = some ys[i] := by rw [Int.zero_add]; exact atI_nat (by simp)
          walk_at "go"
          refine i_ixB (h1.seq st.same) ax ?_
          walk_at "go"
          refine i_ixB (h2.seq st.same) ay ?_
          walk_at "go"
          refine ⟨_, _, rfl, AlV.same st.same _ _ _ (Paired.at (i := i) p (by simp) (by simp)), fun H1 e1 => ?_⟩
          have st := st.ext e1
          walk_at "go"
          refine iteF ?_
          exact st
        · intro D H st
          walk_at "go"
          refine st_newL st (by simp) fun l nl st => ?_
          refine ⟨.list [], .list [], .lst (by walk_at "sq") .nil, .lst (by walk_at "sq") .nil, rfl, rfl, ?_⟩
          exact k _ st.same
      · -- a dict
        refine i_isD (b := "dict") (k := true) h2 (by decide +kernel) ?_
        walk_at "go"
        refine iteT ?_
        walk_at "go"
        refine i_isD (b := "dict") (k := true) h1 (by decide +kernel) ?_
        walk_at "go"
        refine iteT ?_
        walk_at "go"
        refine ⟨a, ks, kk, rfl, Rd.of h1, g1, g4, fun y1 p1 m1 s1 np1 => ?_⟩
        have e1 : Same H0 (upd H0 p1 (.lst (y1.map V.str))) := Same.new np1
        walk_at "go"
        refine ⟨b, ls, ll, rfl, Rd.of (e1 _ _ h2), g2, by rw [g3.length_eq]; exact g4, fun y2 p2 m2 s2 np2 => ?_⟩
        have e2 := Same.new (o := .lst (y2.map V.str)) np2
        have ey : y1 = y2 := sorted_one (m1.trans (m2.trans g3).symm) s1 s2
        subst ey
        walk_at "go"
        refine ⟨_, _, rfl, ?_, fun H3 e3 => ?_⟩
        · obtain ⟨m, rfl⟩ : ∃ m, n = m + 2 := ⟨n - 2, by omega⟩
          refine .inr (.inl ⟨true, p1, p2, y1.map V.str, y1.map V.str, rfl, rfl, sqBL (SqL.of (e2 _ _ upd_same)), sqBL (SqL.of upd_same), by rw [List.length_map, m1.length_eq]; omega, ?_⟩)
          have : ∀ l : List Str, Paired (AlV K (upd (upd H0 p1 (.lst (y1.map V.str))) p2 (.lst (y1.map V.str))) (m + 1)) (l.map V.str) (l.map V.str) := fun l => by
            induction l with
            | nil => exact .nil
            | cons x l ih => exact .cons (.inl ⟨rfl, rfl⟩) ih
          exact this y1
        · walk_at "go"
          refine iteT ?_
          walk_at "go"
          refine .inr ⟨8, by decide, EqR.same ((e1.trans e2).trans e3) g5, ?_⟩
          exact k _ ((e1.trans e2).trans e3)
end
end Fb

namespace Fb
open PySem PySem.Spec PyProof.Rows L2
/-! ### the plain law -/
theorem flowN_pre (net : List (List Key)) (lens : List Int) (a : Int) (i j : Nat) (h : i ≤ j) : (flowN net lens a i).2 = (flowN net lens a j).2.take i := by
  induction j with
  | zero =>
    have : i = 0 := by omega
    subst this
    rfl
  | succ j ih =>
    by_cases e : i = j + 1
    · subst e
      rw [List.take_of_length_le]
      rw [flowN_len2]
      exact Nat.le_refl _
    · have h' : i ≤ j := by omega
      have := ih h'
      simp only [flowN]
      rw [List.take_append_of_le_length (by rw [flowN_len2]; exact h')]
      exact this
theorem flow_dep {net : List (List Key)} {lens : List Int} {a : Int} {i : Nat} {seats : List Key} (h : net[i]? = some seats) : (flow net lens a).2.getD i 0 = (lens.getD i 0 + (flowN net lens a i).1.getD i 0) / (seats.length : Int) := by
  have hi : i < net.length := (List.getElem?_eq_some_iff.mp h).1
  have h1 := flowN_pre net lens a (i + 1) net.length hi
  have h2 : (flowN net lens a (i + 1)).2[i]? = some ((lens.getD i 0 + (flowN net lens a i).1.getD i 0) / (seats.length : Int)) := by
    simp only [flowN, getD_of h]
    rw [List.getElem?_append_right (by rw [flowN_len2]; exact Nat.le_refl _), flowN_len2, Nat.sub_self]
    rfl
  rw [h1, List.getElem?_take_of_lt (by omega)] at h2
  exact getD_of h2
section
variable {κ α : Type} [DecidableEq κ]
theorem dput_keys {m : List (κ × α)} {k : κ} {x : α} : (dput m k x).map (·.1) = if (m.any fun p => decide (p.1 = k)) = true then m.map (·.1) else m.map (·.1) ++ [k] := by
  unfold dput
  split
  · rw [List.map_map]
    refine List.map_congr_left fun p _ => ?_
    show (if p.1 = k then (p.1, x) else p).1 = p.1
    split <;> rfl
  · simp
theorem dput_nodup {m : List (κ × α)} {k : κ} {x : α} (h : (m.map (·.1)).Nodup) : ((dput m k x).map (·.1)).Nodup := by
  rw [dput_keys]
  split
  · exact h
  · rename_i hn
    refine List.nodup_append.mpr ⟨h, by simp, fun a ha b hb e => ?_⟩
    have eb : b = k := by simpa using hb
    subst eb
    subst e
    obtain ⟨p, hp, rfl⟩ := List.mem_map.mp ha
    exact hn (List.any_eq_true.mpr ⟨p, hp, decide_eq_true rfl⟩)
theorem dput_mem {m : List (κ × α)} {k : κ} {x : α} {k' : κ} (h : k' ∈ (dput m k x).map (·.1)) : k' ∈ m.map (·.1) ∨ k' = k := by
  rw [dput_keys] at h
  split at h
  · exact .inl h
  · rcases List.mem_append.mp h with h | h
    · exact .inl h
    · exact .inr (List.mem_singleton.mp h)
theorem dget_mem {m : List (κ × α)} (h : (m.map (·.1)).Nodup) {p : κ × α} (hp : p ∈ m) : dget m p.1 = some p.2 := by
  induction m with
  | nil => cases hp
  | cons q m ih =>
    obtain ⟨h1, h2⟩ := List.nodup_cons.mp h
    unfold dget
    rw [List.find?_cons]
    rcases List.mem_cons.mp hp with e | hp
    · subst e
      simp
    · have ne : ¬ q.1 = p.1 := fun e => h1 (show q.1 ∈ m.map (·.1) by rw [e]; exact List.mem_map_of_mem hp)
      rw [decide_eq_false ne]
      exact ih h2 hp
theorem nodup_le : ∀ (a b : List κ), a.Nodup → (∀ x ∈ a, x ∈ b) → a.length ≤ b.length
  | [], _, _, _ => Nat.zero_le _
  | x :: r, b, h, s => by
    obtain ⟨h1, h2⟩ := List.nodup_cons.mp h
    have hx : x ∈ b := s x (by simp)
    have := nodup_le r (b.erase x) h2 fun y hy => (List.mem_erase_of_ne (fun e => h1 (by rw [← e]; exact hy))).mpr (s y (by simp [hy]))
    rw [List.length_erase_of_mem hx] at this
    have hb : 0 < b.length := List.length_pos_of_mem hx
    rw [List.length_cons]
    omega
end
/-- the keys of who finishes: ports that occur, none twice -/
structure FinKeys (S : List Key) (m : List (Key × Int)) : Prop where
  nd : (m.map (·.1)).Nodup
  mem : ∀ k ∈ m.map (·.1), isP k = true ∧ k ∈ S
theorem FinKeys.step {S : List Key} {m : List (Key × Int)} (f : FinKeys S m) {d : Int} {k : Key} (h : isP k = true → k ∈ S) : FinKeys S (finStep d m k) := by
  unfold finStep
  split
  · rename_i hp
    exact ⟨dput_nodup f.nd, fun k' h' => by
      rcases dput_mem h' with h' | h'
      · exact f.mem k' h'
      · subst h'; exact ⟨hp.1, h hp.1⟩⟩
  · exact f
theorem FinKeys.fold {S : List Key} {d : Int} {ks : List Key} {m : List (Key × Int)} (f : FinKeys S m) (h : ∀ k ∈ ks, isP k = true → k ∈ S) : FinKeys S (ks.foldl (finStep d) m) := by
  induction ks generalizing m with
  | nil => exact f
  | cons k ks ih => exact ih (f.step (h k (by simp))) fun k' hk' => h k' (by simp [hk'])
theorem finN_keys {S : List Key} {net : List (List Key)} (h : ∀ seats ∈ net, ∀ k ∈ seats, isP k = true → k ∈ S) (bs : List Int) (i : Nat) : FinKeys S (finN net bs i) := by
  induction i with
  | zero => exact ⟨List.nodup_nil, fun _ h => (List.not_mem_nil h).elim⟩
  | succ i ih =>
    simp only [finN]
    refine ih.fold fun k hk => ?_
    rw [List.getD_eq_getElem?_getD] at hk
    cases e : net[i]? with
    | none => rw [e] at hk; cases hk
    | some s => rw [e] at hk; exact h s (List.mem_of_getElem? e) k hk
theorem FinKeys.strs {S : List Key} {m : List (Key × Int)} (f : FinKeys S m) : ∃ kk : List Str, (dI m).map (·.1) = kk.map Sum.inr ∧ kk.length = m.length := by
  have : ∀ l : List Key, (∀ k ∈ l, isP k = true) → ∃ kk : List Str, l = kk.map Sum.inr := fun l => by
    induction l with
    | nil => exact fun _ => ⟨[], rfl⟩
    | cons k l ih =>
      intro h
      obtain ⟨kk, e⟩ := ih fun k hk => h k (by simp [hk])
      have hk := h k (by simp)
      cases k with
      | inl _ => cases hk
      | inr x => exact ⟨x :: kk, by rw [e]; rfl⟩
  obtain ⟨kk, e⟩ := this (m.map (·.1)) fun k hk => (f.mem k hk).1
  refine ⟨kk, ?_, ?_⟩
  · rw [← e]
    unfold dI dmap
    rw [List.map_map]
    rfl
  · have := congrArg List.length e
    simpa using this.symm
theorem FinKeys.small {S : List Key} {m : List (Key × Int)} (f : FinKeys S m) : m.length ≤ S.length := by
  have := nodup_le (m.map (·.1)) S f.nd fun k hk => (f.mem k hk).2
  simpa using this
/-- two dicts of the same such pairs are alike -/
theorem fin_alike {K : PySem.W.Frag} {H : Hp} {S : List Key} {m : List (Key × Int)} (f : FinKeys S m) (hS : S.length < 64) {a b : Addr} (ha : H a = some (.dK (dI m))) (hb : H b = some (.dK (dI m))) {n : Nat} (hn : 2 ≤ n) : AlV K H (n + 1) (.ref a) (.ref b) := by
  obtain ⟨kk, ek, el⟩ := f.strs
  have hs := f.small
  refine .inr (.inr ⟨a, b, dI m, dI m, kk, kk, rfl, rfl, ha, hb, ek, ek, List.Perm.refl _, by omega, .inr ⟨a, b, dI m, dI m, rfl, rfl, ha, hb, rfl, fun p hp => ?_⟩, hn⟩)
  obtain ⟨q, hq, rfl⟩ := List.mem_map.mp hp
  refine ⟨.int q.2, ?_, .inl ⟨rfl, rfl⟩⟩
  unfold dI
  rw [dmap_get, dget_mem f.nd hq]
  rfl
theorem ints_alike {K : PySem.W.Frag} {H : Hp} {ns : List Int} {a b : Addr} (ha : SqL K H a (iV ns)) (hb : SqL K H b (iV ns)) (hl : ns.length ≤ 90000) {n : Nat} : AlV K H (n + 2) (.ref a) (.ref b) := by
  refine .inr (.inl ⟨true, a, b, iV ns, iV ns, rfl, rfl, ha, hb, by rw [iV_len]; exact hl, ?_⟩)
  clear ha hb hl
  induction ns with
  | nil => exact .nil
  | cons x r ih => exact .cons (.inl ⟨rfl, rfl⟩) ih
/-- the passengers from 1 on -/
def upto (n : Int) : List Int := (List.range (n - 1).toNat).map fun (i : Nat) => (i : Int) + 1
theorem upto_app {n l : Int} (h1 : 1 ≤ n) (h2 : 0 ≤ l) : upto (n + l) = upto n ++ (List.range l.toNat).map fun (i : Nat) => n + (i : Int) := by
  unfold upto
  have e : (n + l - 1).toNat = (n - 1).toNat + l.toNat := by omega
  rw [e, List.range_add, List.map_append, List.map_map]
  congr 1
  refine List.map_congr_left fun i _ => ?_
  show (((n - 1).toNat + i : Nat) : Int) + 1 = n + (i : Int)
  omega
theorem upto_ok (n : Int) : (upto n).Nodup ∧ ∀ p ∈ upto n, 1 ≤ p ∧ p < max n 1 := by
  unfold upto
  constructor
  · exact List.Pairwise.map (S := fun a b => a ≠ b) _ (fun a b (h : a ≠ b) (e : (a : Int) + 1 = (b : Int) + 1) => h (by omega)) List.nodup_range
  · intro p hp
    obtain ⟨i, hi, rfl⟩ := List.mem_map.mp hp
    have := List.mem_range.mp hi
    omega
def spLaw (K : PySem.W.Frag) : Sp := fun vs H Q _ => ∃ (a : Addr) (ns : List Int), vs = [.ref a] ∧ SqL K H a (iV ns) ∧ ns.length ≤ 63 ∧ ∀ H', Q (.bl true) H'
section
variable {P : Program} {w : World} {K : PySem.W.Frag} {mg : Str → Option Value} {base : Heap}
theorem ok_law (A : All K mg) {f : Addr} {fd : FuncData} (F : Fun K "law" "law" s_law f fd) : FnOk P w K mg base (L2.CX P w) 10 f fd ["_law_script"] (spLaw K) := by
  have c_is_port : Cal P w K mg base 1 "is_port" spPort := ok_is_port A
  have c_is_valid_place := ok_is_valid_place A c_is_port
  have c_first_invalid_seat := ok_first_invalid_seat A c_is_valid_place
  have c_validate_network := ok_validate_network A c_first_invalid_seat
  have c_validate_count : Cal P w K mg base 1 "validate_count" spVCount := ok_validate_count A
  have c_queue_lengths : Cal P w K mg base 1 "queue_lengths" (spQLens K) := ok_queue_lengths A
  have c_is_valid_state : Cal P w K mg base 1 "is_valid_state" (spIsState K) := ok_is_valid_state A
  have c_validate_state := ok_validate_state A c_is_valid_state
  have c_validate_all := ok_validate_all A c_validate_network c_validate_state
  have c_count_flow := ok_count_flow A c_is_port
  have c_finished_by := ok_finished_by A c_is_port
  have c_count_boats := ok_count_boats A c_validate_all c_validate_count c_count_flow c_queue_lengths
  have c_count_finished := ok_count_finished A c_validate_all c_validate_count c_count_flow c_queue_lengths c_finished_by
  have c_law_mix : Cal P w K mg base 1 "_law_mix" (spMix K) := ok_law_mix A
  have c_law_next : Cal P w K mg base 1 "_law_next" spNext := ok_law_next A
  have c_law_place := ok_law_place A c_law_next
  have c_law_network := ok_law_network A c_law_next c_law_place
  have c_law_alike : Cal P w K mg base 4 "_law_alike" (spAl K 3) := ok_law_alike A 3
  refine fn_law F sc_law (fun vs H Q E h => ?_) (fun cdv A' outer s H0 vs Q E hr h => ?_)
  · obtain ⟨a, ns, rfl, _⟩ := h
    rfl
  · obtain ⟨a, ns, rfl, hs, hl, k⟩ := h
    have hu := hu_of hr
    refine ⟨_, (pss_cons (ps_set (i := 1) sc_law.nd rfl (Or.inl rfl) (pc c_law_mix hr (by decide) (pa_cons (pv 0) (pa_cons pe_int pa_nil))))
 (pss_cons (ps_for PassesOwn.never rfl (pi_range1 (by rfl) A.b_range (pa_cons pe_int pa_nil)) (pg_name (i := 2) sc_law.nd rfl (Or.inl rfl))
 (pss_cons (ps_par3 (i := 3) (j := 4) (l := 5) (by rfl) sc_law.nd rfl rfl rfl (by decide) (by decide) (by decide) rfl rfl rfl (pa_cons (pc c_law_network hr (by decide) (pa_cons (pv 1) (pa_cons pe_int pa_nil))) (pa_cons (pe_lst pa_nil) (pa_cons pe_int pa_nil))) (by rfl))
 (pss_cons (ps_for PassesOwn.never rfl (k_pt (K := K) rfl (pv 3)) (pg_name (i := 6) sc_law.nd rfl (Or.inl rfl))
 (pss_cons (ps_set (i := 7) sc_law.nd rfl (Or.inl rfl) (pc c_law_next hr (by decide) (pa_cons (pv 1) (pa_cons (pe_callB (id := "len") (k_len (K := K) rfl) (by rfl) A.b_len (by decide +kernel) (pa_cons (pv 6) pa_nil)) pa_nil))))
 (pss_cons (ps_expr (pe_bm PySem.F.plainAttrs_list PySem.F.slot_list_append PySem.F.type_list_append mt_append (pv 4) (pa_cons (pe_tupRg rfl (by rfl) A.b_tuple (prg_2 (by rfl) A.b_range (pv 5) (pe_op op_add (pv 5) (pv 7)))) pa_nil)))
 (pss_one (ps_set (i := 5) sc_law.nd rfl (Or.inl rfl) (pe_op op_add (pv 5) (pv 7)))))))
 (pss_cons (ps_par (i := 8) (j := 9) (by rfl) sc_law.nd rfl rfl (by decide) rfl rfl (pa_cons (pe_tup (pa_cons (pv 5) (pa_cons (pe_callTy (T := "tuple") (k_tuple (K := K) rfl) (by rfl) A.b_tuple (by decide +kernel) (pa_cons (pv 4) pa_nil)) pa_nil))) (pa_cons (pe_ix (k_ixL (K := K) rfl) (pe_lst (pa_cons (pc c_law_next hr (by decide) (pa_cons (pv 1) (pa_cons pe_int pa_nil))) (pa_cons (pe_op op_sub (pe_op op_pow pe_int pe_int) (pc c_law_next hr (by decide) (pa_cons (pv 1) (pa_cons pe_int pa_nil)))) pa_nil))) (pc c_law_next hr (by decide) (pa_cons (pv 1) (pa_cons pe_int pa_nil))) (fun _ _ => rfl)) pa_nil)) (by rfl))
 (pss_cons (ps_par3 (i := 10) (j := 11) (l := 12) (by rfl) sc_law.nd rfl rfl rfl (by decide) (by decide) (by decide) rfl rfl rfl (pa_cons (pe_op op_cat (pe_lst (pa_cons (pv 9) pa_nil)) (pe_op op_rep (pe_lst (pa_cons pe_int pa_nil)) (pe_op op_sub (pe_callB (id := "len") (k_len (K := K) rfl) (by rfl) A.b_len (by decide +kernel) (pa_cons (pv 3) pa_nil)) pe_int))) (pa_cons (pe_lst pa_nil) (pa_cons pe_dnewK pa_nil))) (by rfl))
 (pss_cons (ps_for PassesOwn.never rfl (pi_range1 (by rfl) A.b_range (pa_cons (pe_callB (id := "len") (k_len (K := K) rfl) (by rfl) A.b_len (by decide +kernel) (pa_cons (pv 3) pa_nil)) pa_nil)) (pg_name (i := 13) sc_law.nd rfl (Or.inl rfl))
 (pss_cons (ps_expr (pe_bm PySem.F.plainAttrs_list PySem.F.slot_list_append PySem.F.type_list_append mt_append (pv 11) (pa_cons (pe_op op_fdiv (pe_op op_add (pe_callB (id := "len") (k_len (K := K) rfl) (by rfl) A.b_len (by decide +kernel) (pa_cons (pe_ix (k_ixL (K := K) rfl) (pv 4) (pv 13) (fun _ _ => rfl)) pa_nil)) (pe_ix (k_ixL (K := K) rfl) (pv 10) (pv 13) (fun _ _ => rfl))) (pe_callB (id := "len") (k_len (K := K) rfl) (by rfl) A.b_len (by decide +kernel) (pa_cons (pe_ix (k_ixT (K := K) rfl) (pv 3) (pv 13) (fun _ _ => rfl)) pa_nil))) pa_nil)))
 (pss_one (ps_for PassesOwn.never rfl (k_pt (K := K) rfl (pe_ix (k_ixT (K := K) rfl) (pv 3) (pv 13) (fun _ _ => rfl))) (pg_name (i := 14) sc_law.nd rfl (Or.inl rfl))
 (pss_one (ps_if (pt_not (pt_val (pe_callB (id := "isinstance") (k_isi (K := K) rfl) (by rfl) A.b_isinstance (by decide +kernel) (pa_cons (pv 14) (pa_cons (pe_bltn (v := .ty "str") (u := .type "str") (by rfl) A.b_str (by decide +kernel) rfl) pa_nil))))) (pss_one (ps_asg (pe_op op_add (pe_ix (k_ixL (K := K) rfl) (pv 10) (pv 14) (fun _ _ => rfl)) (pe_ix (k_ixL (K := K) rfl) (pv 11) (pv 13) (fun _ _ => rfl))) (pg_sub (pv 10) (pv 14) set_list))) (pss_one (ps_if (pt_cmpR op_gt (pe_ix (k_ixL (K := K) rfl) (pv 11) (pv 13) (fun _ _ => rfl)) pe_int (nomark _)) (pss_one (ps_dput hu (pv 12) (pv 14) (pe_op op_add (pe_dget2 hu (pv 12) (pv 14) pe_int ⟨rfl, rfl, rfl, rfl⟩) (pe_ix (k_ixL (K := K) rfl) (pv 11) (pv 13) (fun _ _ => rfl))) rfl)) pss_nil))))))))
 (pss_cons (ps_if (pt_not (pt_val (pc c_law_alike hr (by decide) (pa_cons (pc c_count_boats hr (by decide) (pa_cons (pv 3) (pa_cons (pv 8) (pa_cons (pv 9) pa_nil)))) (pa_cons (pv 11) pa_nil))))) (pss_one (ps_ret pe_bl)) pss_nil)
 (pss_one (ps_if (pt_not (pt_val (pc c_law_alike hr (by decide) (pa_cons (pc c_count_finished hr (by decide) (pa_cons (pv 3) (pa_cons (pv 8) (pa_cons (pv 9) pa_nil)))) (pa_cons (pv 12) pa_nil))))) (pss_one (ps_ret pe_bl)) pss_nil)))))))))
 (pss_one (ps_ret pe_bl)))), ?_⟩
    have st : Stt [] H0 [] [] H0 := Stt.init H0
    walk_at "begin"
    refine ⟨a, ns, _, rfl, hs, hl, fun h c H nh nc e rg => ?_⟩
    obtain ⟨m, j, cells, hc, st⟩ : ∃ m j cells, cells.length ≤ 63 ∧ Stt [] H0 (rngL h c m j cells []) [] H := by
      have ne := rg.ne
      obtain ⟨m, j, cells, h1, h2, hc⟩ := rg
      refine ⟨m, j, cells, hc, st.news (N := [(h, .lst [.int m, .ref c, .int j]), (c, .lst (iV cells))]) (fun p hp => ?_) e (fun p hp => ?_) (fun p hp => ?_) (by simp [ne])⟩
      all_goals
        rcases List.mem_cons.mp hp with q | hp
        · rw [q]; first | exact nh | exact h1 | trivial
        · rw [List.mem_singleton.mp hp]; first | exact nc | exact h2 | trivial
    walk_at "go"
    refine ⟨_, rfl, by decide, by decide, ForIt.go walk_range (fun i σ H => ∃ s2 s3 s4 s5 s6 s7 s8 s9 s10 s11 s12 s13 s14 m j cells, σ = [some (.ref a), some (.ref h), s2, s3, s4, s5, s6, s7, s8, s9, s10, s11, s12, s13, s14] ∧ cells.length ≤ 63 ∧ Stt [] H0 (rngL h c m j cells []) [] H) ⟨_, _, _, _, _, _, _, _, _, _, _, _, _, m, j, cells, rfl, hc, st⟩ (fun _ _ _ _ _ => trivial) ?_ ?_⟩
    · rintro i v σ H H' hi ⟨s2, s3, s4, s5, s6, s7, s8, s9, s10, s11, s12, s13, s14, m, j, cells, rfl, hc, st⟩ ⟨rfl, rfl⟩
      walk_at "go"
      refine ⟨h, c, 40, rfl, st.rg hc, by decide, by decide, fun nv net H hn ok hp4 _ e rg => ?_⟩
      obtain ⟨m, j, cells, hc, st⟩ := st.rng e rg
      obtain ⟨na, xs, rfl, hna, hxs⟩ := id hn.tup_inv
      have hxl : xs.length = net.length := by rw [hxs.len, List.length_map]
      have st := (st.know (φ := fun H => TupAt K H na xs) hna Pers.tup).know (φ := fun H => DtAll K H xs (net.map seatsD)) hxs Pers.all
      have h40 := ok.le
      walk_at "go"
      refine st_newL st (by simp) fun ql nq st => ?_
      walk_at "go"
      refine ⟨_, _, _, rfl, ?_⟩
      walk_at "go"
      -- the queues
      refine ⟨na, rfl, ⟨_, by walk_at "sq"⟩, ForIt.go (walk_tup (xs := xs)) (fun q σ H => ∃ s6 s7 s8 s9 s10 s11 s12 s13 s14 m j cells vs qs number, σ = [some (.ref a), some (.ref h), some (.int (0 + (i : Nat))), some (.ref na), some (.ref ql), some (.int number), s6, s7, s8, s9, s10, s11, s12, s13, s14] ∧ cells.length ≤ 63 ∧
        Stt [] H0 (rngL h c m j cells [(ql, .lst vs)]) [fun H => TupAt K H na xs, fun H => DtAll K H xs (net.map seatsD), fun H => DtAll K H vs (qs.map intsD)] H ∧ qs.length = q ∧ qs.flatten = upto number ∧ 1 ≤ number ∧ number ≤ 1 + 8 * q ∧
        (∀ (r : Nat) (qq : List Int) (seats : List Key), qs[r]? = some qq → net[r]? = some seats → qq.length < seats.length)) ⟨_, _, _, _, _, _, _, _, _, m, j, cells, [], [], 1, rfl, hc, st.know .nil Pers.all, rfl, rfl, by decide, by decide, fun r qq seats h => by simp at h⟩ (fun q σ H _ p => ?_) ?_ ?_⟩
      · obtain ⟨_, _, _, _, _, _, _, _, _, _, _, _, _, _, _, _, _, st, _⟩ := p
        walk_at "sq"
      · rintro q x σ H H' hq ⟨s6, s7, s8, s9, s10, s11, s12, s13, s14, m, j, cells, vs, qs, number, rfl, hc, st, hql, hfl, n1, n8, hsh⟩ ⟨rfl, hx⟩
        obtain ⟨seats, sa, hseats, rfl, hsa⟩ := net_at (st.pers 1 rfl : DtAll K _ xs (net.map seatsD)) hx
        obtain ⟨z1, z8⟩ := ok.size q seats hseats
        walk_at "go"
        refine i_lenT (hsa.sq) ?_
        walk_at "go"
        rw [List.length_map]
        refine st_next st hc (by omega) (by omega) fun r m j cells H r0 r1 hc st => ?_
        walk_at "go"
        refine i_tyL (xs := vs) (by walk_at "sq") ?_
        walk_at "go"
        refine i_tupRg ?_
        refine ⟨_, rfl, _, rfl, _, rfl, _, _, rfl, rfl, _, _, rfl, rfl, ⟨by omega, by omega, by omega, by omega, by omega⟩, fun tp ntp => ?_⟩
        have st := st.newT K ntp (xs := rgV number (number + r))
        walk_at "go"
        have hvl : vs.length = qs.length := by rw [(st.pers 2 rfl : DtAll K _ vs (qs.map intsD)).len, List.length_map]
        refine st_append st 2 rfl (by omega) fun H st => ?_
        walk_at "go"
        have erg : rgV number (number + r) = iV ((List.range r.toNat).map fun (i : Nat) => number + (i : Int)) := by
          unfold rgV iV
          rw [List.map_map]
          have : (number + r - number).toNat = r.toNat := by omega
          rw [this]
          rfl
        have d1 : DtAll K H vs (qs.map intsD) := st.pers 2 rfl
        have d2 : TupAt K H tp (iV ((List.range r.toNat).map fun (i : Nat) => number + (i : Int))) := by rw [← erg]; exact st.pers 3 rfl
        refine ⟨_, _, _, _, _, _, _, _, _, m, j, cells, vs ++ [.ref tp], qs ++ [(List.range r.toNat).map fun (i : Nat) => number + (i : Int)], number + r, rfl, hc, ?_, by rw [List.length_append, hql]; rfl, ?_, by omega, by omega, fun r' qq seats' hr' hs' => ?_⟩
        · have st := (st.picks [0, 1, 2] (by decide) (L' := rngL h c m j cells [(ql, .lst (vs ++ [.ref tp]))]) rfl).only [0, 1] (P' := [fun H => TupAt K H na xs, fun H => DtAll K H xs (net.map seatsD)]) rfl
          refine st.know (φ := fun H => DtAll K H (vs ++ [.ref tp]) ((qs ++ [(List.range r.toNat).map fun (i : Nat) => number + (i : Int)]).map intsD)) ?_ Pers.all
          rw [List.map_append]
          exact d1.snoc (.tup d2 (DtAll.of_ints _))
        · rw [List.flatten_append, hfl, upto_app n1 r0]
          simp
        · rw [List.getElem?_append] at hr'
          split at hr'
          · exact hsh r' qq seats' hr' hs'
          · rename_i hlt
            have h0 : r' - qs.length = 0 := by
              have := (List.getElem?_eq_some_iff.mp hr').1
              simp at this
              omega
            rw [h0] at hr'
            obtain rfl := Option.some.inj hr'
            have er : r' = q := by omega
            subst er
            rw [hseats] at hs'
            cases hs'
            rw [List.length_map, List.length_range]
            omega
      · rintro σ H ⟨s6, s7, s8, s9, s10, s11, s12, s13, s14, m, j, cells, vs, qs, number, rfl, hc, st, hql, hfl, n1, n8, hsh⟩
        have so : StOk net number qs := ⟨n1, by omega, hsh, by rw [hfl]; exact (upto_ok number).1, fun p hp => by
          rw [hfl] at hp
          have := (upto_ok number).2 p hp
          omega⟩
        have hvl : vs.length = qs.length := by rw [(st.pers 2 rfl : DtAll K _ vs (qs.map intsD)).len, List.length_map]
        walk_at "go"
        refine st_tupleL st (ys := vs) (by walk_at "sq") fun qt H nqt st => ?_
        walk_at "go"
        refine st_newT K st (by simp) fun sv nsv st => ?_
        walk_at "go"
        refine st_next st hc (by decide) (by decide) fun r1 m j cells H r10 r11 hc st => ?_
        walk_at "go"
        refine i_I ⟨by decide, by decide, by decide⟩ ?_
        rw [show (10 : Int) ^ (18 : Int).toNat = 1000000000000000000 by decide]
        walk_at "go"
        refine st_next st hc (by decide) (by decide) fun r2 m j cells H r20 r21 hc st => ?_
        walk_at "go"
        refine st_newL st (by simp) fun cl ncl st => ?_
        walk_at "go"
        refine st_next (L := [(ql, .lst vs), (cl, .lst [.int r1, .int (1000000000000000000 - r2)])]) st hc (by decide) (by decide) fun r3 m j cells H r30 r31 hc st => ?_
        walk_at "go"
        obtain ⟨v, hv, hm⟩ := atI_mem (xs := [V.int r1, V.int (1000000000000000000 - r2)]) r30 (by simpa using r31)
        refine i_ixL (by walk_at "sq") hv ?_
        obtain ⟨count, rfl, c0, c1⟩ : ∃ count : Int, v = .int count ∧ 0 ≤ count ∧ count ≤ 1000000000000000000 := by
          simp only [List.mem_cons, List.not_mem_nil, or_false] at hm
          rcases hm with rfl | rfl
          · exact ⟨_, rfl, by omega, by omega⟩
          · exact ⟨_, rfl, by omega, by omega⟩
        have st := st.picks [0, 1, 2] (by decide) (L' := rngL h c m j cells [(ql, .lst vs)]) rfl
        have hst : Dt K H (.ref sv) (stD number qs) := .tup (st.pers 4 rfl) (.cons (.int _) (.cons (.tup (st.pers 3 rfl) (st.pers 2 rfl)) .nil))
        have st := (st.know (φ := fun H => Dt K H (.ref sv) (stD number qs)) hst Pers.dt).only [0, 1, 2, 5] (P' := [fun H => TupAt K H na xs, fun H => DtAll K H xs (net.map seatsD), fun H => DtAll K H vs (qs.map intsD), fun H => Dt K H (.ref sv) (stD number qs)]) rfl
        walk_at "go"
        refine ⟨_, _, rfl, ?_⟩
        walk_at "go"
        -- joined, boats, told
        generalize hbs : (flow net (lensOf qs) count).2 = bs
        have hll : (lensOf qs).length = net.length := by unfold lensOf; rw [List.length_map]; omega
        have hp0 := ok.pos
        refine st_newL st (by simp) fun t1 n1' st => ?_
        walk_at "go"
        refine st_newL st (by simp) fun t2 n2 st => ?_
        walk_at "go"
        refine i_lenT (xs := xs) (by walk_at "sq") ?_
        walk_at "go"
        refine st_rep st (x := .int 0) (by walk_at "at") (by omega) (by omega) fun t3 H n3 e3 st => ?_
        refine st_cat st (xs := [.int count]) (zs := List.replicate ((xs.length : Int) - 1).toNat (.int 0)) (by walk_at "at") (st.at 5 rfl) (by simp; omega) fun jl H nj ej st => ?_
        have ej1 : [V.int count] ++ List.replicate ((xs.length : Int) - 1).toNat (V.int 0) = iV (flowN net (lensOf qs) count 0).1 := by
          have : ((xs.length : Int) - 1).toNat = net.length - 1 := by omega
          rw [this]
          simp [iV, flowN]
        rw [ej1] at st
        walk_at "go"
        refine st_newL st (by simp) fun bl nb st => ?_
        walk_at "go"
        refine st_dnew st fun tl H nt et st => ?_
        have st := st.picks [0, 1, 2, 6, 7, 8] (by decide) (L' := rngL h c m j cells [(ql, .lst vs), (jl, .lst (iV (flowN net (lensOf qs) count 0).1)), (bl, .lst (iV (flowN net (lensOf qs) count 0).2)), (tl, .dK (dI (finN net bs 0)))]) rfl
        walk_at "go"
        refine ⟨_, _, _, rfl, ?_⟩
        walk_at "go"
        refine i_lenT (xs := xs) (by walk_at "sq") ?_
        walk_at "go"
        rw [hxl]
        refine ⟨_, rfl, by omega, by omega, ForIt.go walk_range (fun r σ H => ∃ s6 s7 s13 s14, σ = [some (.ref a), some (.ref h), some (.int (0 + (i : Nat))), some (.ref na), some (.ref ql), some (.int number), s6, s7, some (.ref sv), some (.int count), some (.ref jl), some (.ref bl), some (.ref tl), s13, s14] ∧
          Stt [] H0 (rngL h c m j cells [(ql, .lst vs), (jl, .lst (iV (flowN net (lensOf qs) count r).1)), (bl, .lst (iV (flowN net (lensOf qs) count r).2)), (tl, .dK (dI (finN net bs r)))]) [fun H => TupAt K H na xs, fun H => DtAll K H xs (net.map seatsD), fun H => DtAll K H vs (qs.map intsD), fun H => Dt K H (.ref sv) (stD number qs)] H) ⟨_, _, _, _, rfl, st⟩ (fun _ _ _ _ _ => trivial) ?_ ?_⟩
        · rintro r v σ H H' hr' ⟨s6, s7, s13, s14, rfl, st⟩ ⟨rfl, rfl⟩
          have hr2 : r < net.length := by omega
          dsimp only
          rw [Int.zero_add (r : Int)]
          obtain ⟨seats, hseats⟩ : ∃ seats, net[r]? = some seats := ⟨_, List.getElem?_eq_getElem hr2⟩
          obtain ⟨qq, hqq⟩ : ∃ qq, qs[r]? = some qq := ⟨_, List.getElem?_eq_getElem (by omega)⟩
          obtain ⟨sa, hsx, hsa⟩ := net_ix (st.pers 1 rfl : DtAll K _ xs (net.map seatsD)) hseats
          obtain ⟨qx, hqx, hqd⟩ := (st.pers 2 rfl : DtAll K _ vs (qs.map intsD)).at (i := r) (d := intsD qq) (by rw [List.getElem?_map, hqq]; rfl)
          obtain ⟨qa, qv, rfl, hqa, hqv⟩ := hqd.tup_inv
          have := hqv.ints
          subst this
          have st := (st.know (φ := fun H => TupAt K H sa (seats.map kV)) hsa Pers.tup).know (φ := fun H => TupAt K H qa (qq.map V.int)) hqa Pers.tup
          obtain ⟨z1, z8⟩ := ok.size r seats hseats
          have hjl := flowN_len hp0 (lensOf qs) count r
          have hbl := flowN_len2 net (lensOf qs) count r
          have hdep := flow_dep (lens := lensOf qs) (a := count) hseats
          rw [hbs] at hdep
          have hlen : (lensOf qs).getD r 0 = (qq.length : Int) := by
            unfold lensOf
            refine getD_of ?_
            rw [List.getElem?_map, hqq]
            rfl
          walk_at "go"
          refine i_tyL (xs := iV (flowN net (lensOf qs) count r).2) (by walk_at "sq") ?_
          walk_at "go"
          refine i_ixL (xs := vs) (by walk_at "sq") (atI_nat hqx) ?_
          walk_at "go"
          refine i_lenT (xs := qq.map V.int) (by walk_at "sq") ?_
          walk_at "go"
          refine i_ixL (xs := iV (flowN net (lensOf qs) count r).1) (by walk_at "sq") (iV_at (by omega)) ?_
          walk_at "go"
          refine i_ixT (xs := xs) (by walk_at "sq") (atI_nat hsx) ?_
          walk_at "go"
          refine i_lenT (xs := seats.map kV) (by walk_at "sq") ?_
          walk_at "go"
          rw [List.length_map, List.length_map]
          refine i_I ⟨by omega, by omega⟩ ?_
          rw [hlen] at hdep
          rw [← hdep]
          walk_at "go"
          refine st_append st 4 rfl (by rw [iV_len]; omega) fun H st => ?_
          have e2 : iV (flowN net (lensOf qs) count r).2 ++ [V.int (bs.getD r 0)] = iV (flowN net (lensOf qs) count (r + 1)).2 := by
            simp only [flowN, getD_of hseats, hlen]
            rw [← hdep]
            simp [iV]
          rw [e2] at st
          have hbk : (flowN net (lensOf qs) count (r + 1)).2.getD r 0 = bs.getD r 0 := by
            rw [flowN_pre net (lensOf qs) count (r + 1) net.length (by omega)]
            have : (flowN net (lensOf qs) count net.length).2 = bs := hbs
            rw [this, List.getD_eq_getElem?_getD, List.getD_eq_getElem?_getD, List.getElem?_take_of_lt (by omega)]
          have hbl1 := flowN_len2 net (lensOf qs) count (r + 1)
          generalize hB : (flowN net (lensOf qs) count (r + 1)).2 = B1 at st hbk hbl1
          generalize hd : bs.getD r 0 = d at hdep hbk st
          have st := st.picks [0, 1, 2, 3, 4, 5] (by decide) (L' := rngL h c m j cells [(ql, .lst vs), (jl, .lst (iV ((seats.take 0).foldl (seatStep d) (flowN net (lensOf qs) count r).1))), (bl, .lst (iV B1)), (tl, .dK (dI ((seats.take 0).foldl (finStep d) (finN net bs r))))]) rfl
          walk_at "go"
          refine i_ixT (xs := xs) (by walk_at "sq") (atI_nat hsx) ?_
          walk_at "go"
          refine ⟨sa, rfl, ⟨_, by walk_at "sq"⟩, ForIt.go (walk_tup (xs := seats.map kV)) (fun o σ H => ∃ s14, σ = [some (.ref a), some (.ref h), some (.int (0 + (i : Nat))), some (.ref na), some (.ref ql), some (.int number), s6, s7, some (.ref sv), some (.int count), some (.ref jl), some (.ref bl), some (.ref tl), some (.int (r : Int)), s14] ∧
            Stt [] H0 (rngL h c m j cells [(ql, .lst vs), (jl, .lst (iV ((seats.take o).foldl (seatStep d) (flowN net (lensOf qs) count r).1))), (bl, .lst (iV B1)), (tl, .dK (dI ((seats.take o).foldl (finStep d) (finN net bs r))))]) [fun H => TupAt K H na xs, fun H => DtAll K H xs (net.map seatsD), fun H => DtAll K H vs (qs.map intsD), fun H => Dt K H (.ref sv) (stD number qs), fun H => TupAt K H sa (seats.map kV)] H) ⟨_, rfl, st.only [0, 1, 2, 3, 4] rfl⟩ (fun o σ H _ p => ?_) ?_ ?_⟩
          · obtain ⟨_, _, st⟩ := p
            walk_at "sq"
          · rintro o x σ H H' ho ⟨s14, rfl, st⟩ ⟨rfl, hx⟩
            rw [List.length_map] at ho
            obtain ⟨ky, hky, rfl⟩ : ∃ ky, seats[o]? = some ky ∧ kV ky = x := by
              rw [List.getElem?_map, List.getElem?_eq_getElem ho] at hx
              exact ⟨_, List.getElem?_eq_getElem ho, Option.some.inj hx⟩
            have ej : (seats.take (o + 1)).foldl (seatStep d) (flowN net (lensOf qs) count r).1 = seatStep d ((seats.take o).foldl (seatStep d) (flowN net (lensOf qs) count r).1) ky := by
              rw [List.take_succ, hky]
              simp
            have ef : (seats.take (o + 1)).foldl (finStep d) (finN net bs r) = finStep d ((seats.take o).foldl (finStep d) (finN net bs r)) ky := by
              rw [List.take_succ, hky]
              simp
            have hj0 : ((seats.take o).foldl (seatStep d) (flowN net (lensOf qs) count r).1).length = net.length := by rw [seats_len, hjl]
            have hf0 : ((seats.take o).foldl (finStep d) (finN net bs r)).length ≤ 1000 := by
              have h1 := finFold_len d (seats.take o) (finN net bs r)
              have h2 := finN_len ok bs r
              rw [List.length_take] at h1
              omega
            have hplc := ok.plc r seats ky hseats (List.mem_of_getElem? hky)
            generalize (seats.take o).foldl (seatStep d) (flowN net (lensOf qs) count r).1 = j0 at st ej hj0
            generalize (seats.take o).foldl (finStep d) (finN net bs r) = f0 at st ef hf0
            walk_at "go"
            cases ky with
            | inl pz =>
              obtain ⟨p1, p2⟩ : (r : Int) < pz ∧ pz < net.length := hplc
              walk_at "go"
              refine i_isI (b := "str") (k := false) (by decide +kernel) ?_
              walk_at "go"
              refine iteT ?_
              walk_at "go"
              refine i_ixL (xs := iV j0) (v := .int (j0.getD pz.toNat 0)) (by walk_at "sq") ?_ ?_
              · have := iV_at (ns := j0) (i := pz.toNat) (by omega)
                rw [Int.toNat_of_nonneg (by omega)] at this
                exact this
              walk_at "go"
              refine i_ixL (xs := iV B1) (by walk_at "sq") (iV_at (by omega)) ?_
              rw [hbk]
              walk_at "go"
              refine st_setL st 3 rfl (ixN_nat (by omega) (by rw [iV_len]; omega)) fun H st => ?_
              walk_at "go"
              refine ⟨_, rfl, ?_⟩
              rw [ej, ef]
              have e1 : (iV j0).set pz.toNat (.int (j0.getD pz.toNat 0 + d)) = iV (seatStep d j0 (.inl pz)) := by
                simp [iV, seatStep, List.map_set]
              have e2 : finStep d f0 (.inl pz) = f0 := by
                unfold finStep
                rw [if_neg (by simp [isP])]
              rw [e1] at st
              rw [e2]
              exact st
            | inr z =>
              walk_at "go"
              refine i_isS (b := "str") (k := true) (by decide +kernel) ?_
              walk_at "go"
              refine iteF ?_
              walk_at "go"
              refine i_ixL (xs := iV B1) (by walk_at "sq") (iV_at (by omega)) ?_
              rw [hbk]
              walk_at "go"
              have e1 : seatStep d j0 (.inr z) = j0 := rfl
              refine ite2 (fun hd0 => ?_) (fun hd0 => ?_)
              · have hd0 : 0 < d := of_decide_eq_true hd0
                walk_at "go"
                refine ⟨tl, rfl, .inl ⟨_, Rd.of (st.at 5 rfl)⟩, ?_⟩
                walk_at "go"
                refine st_dget (ky := .inr z) (st.at 5 rfl) ?_
                have eg : (valV (dI f0) (.inr z)).getD (.int 0) = .int ((dget f0 (.inr z)).getD 0) := by
                  unfold dI
                  rw [dmap_get]
                  cases dget f0 (.inr z) <;> rfl
                rw [eg]
                walk_at "go"
                refine i_ixL (xs := iV B1) (by walk_at "sq") (iV_at (by omega)) ?_
                rw [hbk]
                walk_at "go"
                refine st_dput st 5 (ky := .inr z) rfl (by unfold dI dmap; rw [List.length_map]; omega) fun H st => ?_
                refine ⟨_, rfl, ?_⟩
                have e2 : putK (dI f0) (.inr z) (.int ((dget f0 (.inr z)).getD 0 + d)) = dI (finStep d f0 (.inr z)) := by
                  unfold finStep dI
                  rw [if_pos ⟨rfl, hd0⟩]
                  exact dmap_put V.int f0 (.inr z) _
                rw [e2] at st
                rw [ej, ef, e1]
                exact st
              · walk_at "go"
                have e2 : finStep d f0 (.inr z) = f0 := by unfold finStep; rw [if_neg (by simp at hd0; omega)]
                refine ⟨_, rfl, ?_⟩
                rw [ej, ef, e1, e2]
                exact st
          · rintro σ H ⟨s14, rfl, st⟩
            rw [List.length_map, List.take_length] at st
            refine ⟨_, _, _, _, rfl, ?_⟩
            have e1 : (flowN net (lensOf qs) count (r + 1)).1 = seats.foldl (seatStep d) (flowN net (lensOf qs) count r).1 := by
              simp only [flowN, getD_of hseats, hlen]
              rw [← hdep]
            have e3 : finN net bs (r + 1) = seats.foldl (finStep d) (finN net bs r) := by
              simp only [finN, getD_of hseats, hd]
            rw [e1, e3]
            exact st.only [0, 1, 2, 3] rfl
        · rintro σ H ⟨s6, s7, s13, s14, rfl, st⟩
          have en : ((net.length : Int)).toNat = net.length := by omega
          rw [en] at st
          have ebs : (flowN net (lensOf qs) count net.length).2 = bs := hbs
          rw [ebs] at st
          have hbsl : bs.length = net.length := by rw [← ebs, flowN_len2]
          walk_at "go"
          -- boats
          have hnet : Dt K H (.ref na) (netD net) := .tup (st.pers 0 rfl) (st.pers 1 rfl)
          refine ⟨_, _, net, number, qs, count, rfl, hnet, st.pers 3 rfl, ok, so, c0, c1, fun p1 H1 np1 e1 hp1 => ?_⟩
          rw [hbs] at hp1
          have st := st.ext e1
          walk_at "go"
          refine ⟨_, _, rfl, ints_alike (n := 1) (SqL.of hp1) (by walk_at "sq") (by omega), fun H2 e2 => ?_⟩
          have st := st.ext e2
          walk_at "go"
          refine iteF ?_
          walk_at "go"
          have hnet : Dt K H2 (.ref na) (netD net) := .tup (st.pers 0 rfl) (st.pers 1 rfl)
          refine ⟨_, _, net, number, qs, count, rfl, hnet, st.pers 3 rfl, ok, so, c0, c1, fun p2 H3 np2 e3 hp2 => ?_⟩
          rw [hbs] at hp2
          have st := st.ext e3
          walk_at "go"
          refine ⟨_, _, rfl, fin_alike (n := 2) (finN_keys hp4 bs net.length) (by decide) hp2 (st.at 5 rfl) (by decide), fun H4 e4 => ?_⟩
          have st := st.ext e4
          walk_at "go"
          refine iteF ?_
          walk_at "go"
          exact ⟨_, _, _, _, _, _, _, _, _, _, _, _, _, m, j, cells, rfl, hc, (st.picks [0, 1] (by decide) (L' := rngL h c m j cells []) rfl).forget⟩
    · rintro σ H ⟨s2, s3, s4, s5, s6, s7, s8, s9, s10, s11, s12, s13, s14, m, j, cells, rfl, hc, st⟩
      walk_at "go"
      exact k _
end
end Fb

namespace Fb
open PySem PySem.Spec PyProof.Rows L2
theorem law_fin {P : Program} {w : World} {K : PySem.W.Frag} {mg : Str → Option Value} {fa : Addr} (A : All K mg) (h : mg "law" = some (.ref fa)) : ∃ fd : FuncData, (∀ (s : Shared) (u : Value), BindsTo s fd ⟨[u], []⟩ [("_law_script", u)]) ∧ ∀ base : Heap, K.In base → base.Ns mainGlobals mg → FnOk P w K mg base (L2.CX P w) 10 fa fd ["_law_script"] (spLaw K) :=
  fin_of A.d_law h (fun _ _ _ _ _ _ us hl => match us, hl with | [_], _ => rfl) fun base f fd F => ok_law A F
end Fb
open PySem PySem.W PyProof.Rows
set_option maxRecDepth 100000 in
set_option maxHeartbeats 0 in
theorem PySem.Challenge.cw_fullboats_k08_whole_counts_of_large_netw_holds : PySem.Challenge.rw_fullboats_k08_whole_counts_of_large_netw.Holds := by
  w_on; o_law; k_head; (case hw => w_witness2)
  k_fill
  refine L2.walk_of (l := PySem.Challenge.rw_fullboats_k08_whole_counts_of_large_netw) (n := 63) (k := 10) (x := "_law_script") (CX := fun w => L2.CX PySem.Challenge.rw_fullboats_k08_whole_counts_of_large_netw.prog w) (sp := fun w => Fb.spLaw _) rfl (by decide) rfl ⟨rfl, by decide, by decide⟩ (fun w h Y => PySem.W.kIn_of Y) ?F (fun _ _ a ns hl _ hS => ⟨a, ns, rfl, hS, hl, fun _ => rfl⟩) ?e
  case e =>
    intro w H s e s' h
    obtain ⟨_, _, _, _, _, _, _, _, _, _, _, _, z⟩ := h
    exact z.elim
  case F =>
    intro w mg fa h KX G hmg
    refine Fb.law_fin (Fb.All.mk ?d0 ?d1 ?d2 ?d3 ?d4 ?d5 ?d6 ?d7 ?d8 ?d9 ?d10 ?d11 ?d12 ?d13 ?d14 ?d15 ?d16 ?d17 ?d18 ?b0 ?b1 ?b2 ?b3 ?b4 ?b5 ?b6 ?b7 ?b8 ?b9 ?b10 ?b11 ?b12 ?b13 ?b14 ?b15 ?c0 ?c1 ?c2 ?c3 ?c4) hmg
    case d0 => (refine' Fb.DefIn.mk' KX G ?a ?l ?c ?k; (case a => k_is); (case l => k_is); (case c => k_is); (case k => k_is))
    case d1 => (refine' Fb.DefIn.mk' KX G ?a ?l ?c ?k; (case a => k_is); (case l => k_is); (case c => k_is); (case k => k_is))
    case d2 => (refine' Fb.DefIn.mk' KX G ?a ?l ?c ?k; (case a => k_is); (case l => k_is); (case c => k_is); (case k => k_is))
    case d3 => (refine' Fb.DefIn.mk' KX G ?a ?l ?c ?k; (case a => k_is); (case l => k_is); (case c => k_is); (case k => k_is))
    case d4 => (refine' Fb.DefIn.mk' KX G ?a ?l ?c ?k; (case a => k_is); (case l => k_is); (case c => k_is); (case k => k_is))
    case d5 => (refine' Fb.DefIn.mk' KX G ?a ?l ?c ?k; (case a => k_is); (case l => k_is); (case c => k_is); (case k => k_is))
    case d6 => (refine' Fb.DefIn.mk' KX G ?a ?l ?c ?k; (case a => k_is); (case l => k_is); (case c => k_is); (case k => k_is))
    case d7 => (refine' Fb.DefIn.mk' KX G ?a ?l ?c ?k; (case a => k_is); (case l => k_is); (case c => k_is); (case k => k_is))
    case d8 => (refine' Fb.DefIn.mk' KX G ?a ?l ?c ?k; (case a => k_is); (case l => k_is); (case c => k_is); (case k => k_is))
    case d9 => (refine' Fb.DefIn.mk' KX G ?a ?l ?c ?k; (case a => k_is); (case l => k_is); (case c => k_is); (case k => k_is))
    case d10 => (refine' Fb.DefIn.mk' KX G ?a ?l ?c ?k; (case a => k_is); (case l => k_is); (case c => k_is); (case k => k_is))
    case d11 => (refine' Fb.DefIn.mk' KX G ?a ?l ?c ?k; (case a => k_is); (case l => k_is); (case c => k_is); (case k => k_is))
    case d12 => (refine' Fb.DefIn.mk' KX G ?a ?l ?c ?k; (case a => k_is); (case l => k_is); (case c => k_is); (case k => k_is))
    case d13 => (refine' Fb.DefIn.mk' KX G ?a ?l ?c ?k; (case a => k_is); (case l => k_is); (case c => k_is); (case k => k_is))
    case d14 => (refine' Fb.DefIn.mk' KX G ?a ?l ?c ?k; (case a => k_is); (case l => k_is); (case c => k_is); (case k => k_is))
    case d15 => (refine' Fb.DefIn.mk' KX G ?a ?l ?c ?k; (case a => k_is); (case l => k_is); (case c => k_is); (case k => k_is))
    case d16 => (refine' Fb.DefIn.mk' KX G ?a ?l ?c ?k; (case a => k_is); (case l => k_is); (case c => k_is); (case k => k_is))
    case d17 => (refine' Fb.DefIn.mk' KX G ?a ?l ?c ?k; (case a => k_is); (case l => k_is); (case c => k_is); (case k => k_is))
    case d18 => (refine' Fb.DefIn.mk' KX G ?a ?l ?c ?k; (case a => k_is); (case l => k_is); (case c => k_is); (case k => k_is))
    case b0 => exact PySem.W.mg_none_of KX G (by k_is)
    case b1 => exact PySem.W.mg_none_of KX G (by k_is)
    case b2 => exact PySem.W.mg_none_of KX G (by k_is)
    case b3 => exact PySem.W.mg_none_of KX G (by k_is)
    case b4 => exact PySem.W.mg_none_of KX G (by k_is)
    case b5 => exact PySem.W.mg_none_of KX G (by k_is)
    case b6 => exact PySem.W.mg_none_of KX G (by k_is)
    case b7 => exact PySem.W.mg_none_of KX G (by k_is)
    case b8 => exact PySem.W.mg_none_of KX G (by k_is)
    case b9 => exact PySem.W.mg_none_of KX G (by k_is)
    case b10 => exact PySem.W.mg_none_of KX G (by k_is)
    case b11 => exact PySem.W.mg_none_of KX G (by k_is)
    case b12 => exact PySem.W.mg_none_of KX G (by k_is)
    case b13 => exact PySem.W.mg_none_of KX G (by k_is)
    case b14 => exact PySem.W.mg_none_of KX G (by k_is)
    case b15 => exact PySem.W.mg_none_of KX G (by k_is)
    case c0 => exact ⟨_, PySem.W.mg_of KX G (by k_is)⟩
    case c1 => exact ⟨_, PySem.W.mg_of KX G (by k_is)⟩
    case c2 => exact ⟨_, PySem.W.mg_of KX G (by k_is)⟩
    case c3 => exact ⟨_, PySem.W.mg_of KX G (by k_is)⟩
    case c4 => exact ⟨_, PySem.W.mg_of KX G (by k_is)⟩
