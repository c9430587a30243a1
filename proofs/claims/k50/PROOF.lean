import PyProof.Rows.All
import Wide.All
import OpenK.AllK
import Wide.FinOn
import PyProof.EqAt
import PyProof.EqKinds
import PyProof.TupleCall
import KE.GoesEnum
import HandS.ForMost
import HandS.ForExc
import HandS.Walk
import HandS.IsInst
import HandS.Conv
import HandS.Style
import HandS.Zip
import HandS.Wide
import HandS.DeepEq
import HandS.More
import HandS.DictComp
import KE.KDictPairs
import HandS.SortInts
import HandS.Keys
import HandS.ListItems
import KE.KDictList
import HandS.TupMul
import HandS.Strs
import HandS.DictTup
import HandS.Deep
import HandS.ExcInit
import HandS.ExcOwn
import HandS.ExcIs
import HandS.ExcField
import HandS.TryOnly
import HandS.MakeKwOnly
import HandS.Lambda
import HandS.SetFor
import KE.KExcIs
import HandS.TupAny
import KE.KDflt
import HandS.Set
import HandS.DictEq
import HandS.Sort
import HandS.Iter
import KE.KTupSum
import PyProof.WalksMore
import PyProof.MinMaxWalk
import HandS.HotCalls
import HandS.Bytes
import HandS.Replace
import HandS.Codes
import KE.GoesRaise
import KE.KUnpack
import PyProof.CollectIter
import HandS.EndTab
import HandS.HeadWalk
import PySem.Challenge.RW_fullboats_k50_texts_round_trip
set_option Elab.async false
set_option linter.all false
set_option maxRecDepth 100000
set_option maxHeartbeats 4000000

namespace Fb
open PySem
/-- the tables of code objects with lambdas, and their names -/
def tabT : List (Addr × Str) := [(418, "law.<locals>.<lambda>")]
end Fb
set_option maxHeartbeats 4000000
/-! enumerate(x), zip(x, y) in a for or a comprehension: x, y lists or tuples -/
namespace Fb
open PySem PySem.Spec PyProof.Rows L2

/-- a list (kd) or a tuple -/
def SqB (kd : Bool) (K : PySem.W.Frag) (H : Hp) (a : Addr) (xs : List V) : Prop := if kd = true then SqL K H a xs else SqT K H a xs
def SrcIt (kd : Bool) (h : Heap) (it a : Addr) (i : Nat) : Prop := if kd = true then h.IsListIter it a i else h.IsTupleIter it a i
def SrcIs (kd : Bool) (h : Heap) (a : Addr) (its : Array Value) : Prop := if kd = true then h.IsList a its else h.IsTuple a its
theorem SqB.inj {X : Cx} {pins : List (Addr × Obj)} {σ : L2.St} {H : Hp} {s : Shared} {kd : Bool} {a : Addr} {xs ys : List V} (I : Inv X pins σ H s) (h : SqB kd X.K H a xs) (h' : SqB kd X.K H a ys) : xs = ys := by
  cases kd
  · exact I.tuple_inj h h'
  · exact I.list_inj h h'
theorem SqB.src {X : Cx} {pins : List (Addr × Obj)} {σ : L2.St} {H : Hp} {s : Shared} {kd : Bool} {a : Addr} {xs : List V} (I : Inv X pins σ H s) (h : SqB kd X.K H a xs) : ∃ its : List Value, Vals xs its ∧ SrcIs kd s.heap a its.toArray ∧ a < s.heap.objs.size := by
  cases kd
  · obtain ⟨its, r, p, _⟩ := I.tuple h
    exact ⟨its, r, p, p.lt⟩
  · obtain ⟨its, r, p, _⟩ := I.list h
    exact ⟨its, r, p.isList, p.lt⟩
theorem SrcIt.obj {kd : Bool} {h : Heap} {it a : Addr} {i : Nat} (st : SrcIt kd h it a i) : ∃ o, h.get? it = some o ∧ ∀ v, o.data ≠ .cell v := by
  cases kd
  · obtain ⟨o, e, _, d⟩ := (show h.IsTupleIter it a i from st)
    exact ⟨o, e, fun v q => by rw [d] at q; cases q⟩
  · obtain ⟨o, e, _, d⟩ := (show h.IsListIter it a i from st)
    exact ⟨o, e, fun v q => by rw [d] at q; cases q⟩
theorem SrcIt.at' {kd : Bool} {h h' : Heap} {it a : Addr} {i : Nat} (st : SrcIt kd h it a i) (k : ∀ o, h.get? it = some o → h'.get? it = some o) : SrcIt kd h' it a i := by
  cases kd
  · exact (show h.IsTupleIter it a i from st).at k
  · exact (show h.IsListIter it a i from st).at k
theorem src_draws {prog : Program} {w : World} {A : Around} (hh : A.handled = none) (kd : Bool) (it a : Addr) (hne : a ≠ it) (items : Array Value) :
    Draws prog w A it [it, a] items.size (fun i v => items[i]? = some v) (fun i h => SrcIt kd h it a i ∧ SrcIs kd h a items) := by
  cases kd
  · exact Draws.tuple hh it a hne items
  · exact Draws.list hh it a hne items
def srcObj (kd : Bool) (a : Addr) : Obj := if kd = true then { cls := .type "list_iterator", data := .fields #[.ref a, .int 0 0] } else { cls := .type "tuple_iterator", data := .fields #[.ref a, .int 0 0] }
theorem src_begins (kd : Bool) (a : Addr) (items : Array Value) : Begins (.ref a) (srcObj kd a) fun h => SrcIs kd h a items := by
  cases kd
  · exact begins_tuple a items
  · exact begins_list a items
theorem src_new {kd : Bool} {h : Heap} {it a : Addr} (e : h.get? it = some (srcObj kd a)) : SrcIt kd h it a 0 := by
  cases kd
  · exact ⟨_, e, rfl, rfl⟩
  · exact ⟨_, e, rfl, rfl⟩

set_option maxHeartbeats 8000000 in
theorem meets_enumerate_newB1 {v : Value} {o : Obj} {H : Heap → Prop} (B : Begins v o H) :
    Meets (Builtin.«enumerate.__new__» ⟨[.type "enumerate", v], []⟩) (fun _ R s => H s.heap ∧
      R (.ok (.ret (.ref (s.heap.push o).objs.size))) { s with heap := (s.heap.push o).push { cls := .type "enumerate", data := .fields #[.none, .bool false, .ref s.heap.objs.size, rawInt 0, .none, .none] } }) :=
  .of_wp fun prog w A R s h => by
    obtain ⟨hp, g, d, tk, os⟩ := s; obtain ⟨h1, h⟩ := h
    have hsub := sub_enumerate
    have q1 : ∀ {A' : Around} {E : Value → Shared → Prop} {Q : Value → Shared → Prop}, Q (.ref hp.objs.size) ⟨hp.push o, g, d, tk, os⟩ → wpAny (model prog w) A' (pyIter v) Q E ⟨hp, g, d, tk, os⟩ :=
      fun q => B.iter prog w _ _ ⟨hp, g, d, tk, os⟩ _ h1 q
    wp_walk using q1
    refine wpAny_stack_any fun st => wpAny_pure ?_
    split
    · rename_i c _ _ _ _ _
      cases (c == Value.type "enumerate")
      · wp_walk using q1
        exact ⟨_, rfl, h⟩
      · wp_walk using q1
        exact ⟨_, rfl, h⟩
    · wp_walk using q1
      exact ⟨_, rfl, h⟩
theorem enum_begins1 {prog : Program} {w : World} {A : Around} {E : Value → Shared → Prop} {s : Shared} {v : Value} {o : Obj} {H : Heap → Prop} {Q : Value → Shared → Prop} (B : Begins v o H) (h1 : H s.heap)
    (h : ∀ h', IsEnum h' (s.heap.objs.size + 1) s.heap.objs.size 0 .none → h'.get? s.heap.objs.size = some o → h'.objs.size = s.heap.objs.size + 2 →
      (∀ b o, s.heap.get? b = some o → h'.get? b = some o) → Q (.ref (s.heap.objs.size + 1)) { s with heap := h' }) :
    wpAny (model prog w) A (call (.type "enumerate") [v]) Q E s := by
  refine callType_new F.called_enumerate (by decide) (F.typeCall_enumerate_1 _) (F.newCall_enumerate_1 _) (fun obj => F.args_object_init_2 obj _) F.entry_enumerate_new
    (meets_enumerate_newB1 B) ⟨h1, ?_⟩
  have hz : (s.heap.push o).objs.size = s.heap.objs.size + 1 := Heap.size_push ..
  show _ ∧ _
  rw [hz]
  have he : IsEnum ((s.heap.push o).push { cls := .type "enumerate", data := .fields #[.none, .bool false, .ref s.heap.objs.size, rawInt 0, .none, .none] }) (s.heap.objs.size + 1) s.heap.objs.size 0 .none := by
    have := Heap.get?_push_size (s.heap.push o) (o := { cls := .type "enumerate", data := .fields #[.none, .bool false, .ref s.heap.objs.size, rawInt 0, .none, .none] }) rfl
    rw [hz] at this; exact this
  refine ⟨⟨_, he, rfl⟩, h _ he (Heap.get?_push_of_some _ (Heap.get?_push_size _ B.free)) (by rw [Heap.size_push, hz]) fun b o x => Heap.get?_push_of_some _ (Heap.get?_push_of_some _ x)⟩

/-! ### enumerate -/
def ItE (kd : Bool) (K : PySem.W.Frag) (a : Addr) : It :=
  ⟨fun i H => ∃ (xs : List V) (x : V), SqB kd K H a xs ∧ xs[i]? = some x, fun i H v H' => ∃ T x, v = .ref T ∧ H T = none ∧ H' = upd H T (.tup [.int (i : Nat), x]) ∧ ∀ xs, SqB kd K H a xs → xs[i]? = some x, fun i H => ∃ xs : List V, SqB kd K H a xs ∧ xs.length = i⟩
theorem turn_enumB {P : Program} {w : World} {K : PySem.W.Frag} {elts : List Expr} {kk : Nat} {tpos : Pos} (kd : Bool) (a e it : Addr) :
    Turn P w K (.Tuple elts kk tpos) (ItE kd K a) [e, it] e (fun i h => (∃ old, IsEnum h e it ((i : Nat) : Int) old) ∧ SrcIt kd h it a i ∧ e ≠ it ∧ a ≠ it ∧ e ≠ a) where
  mem := by simp
  obj := fun i h st b hb => by
    obtain ⟨⟨old, he⟩, hi, _⟩ := st
    have e' : b = e ∨ b = it := by simpa using hb
    rcases e' with z | z
    · rw [z]; exact ⟨_, he, fun v q => nomatch q⟩
    · rw [z]; exact hi.obj
  keep := fun i h h' st k => let ⟨⟨old, he⟩, hi, hne⟩ := st; ⟨⟨old, k e (by simp) _ he⟩, hi.at' fun o q => k it (by simp) o q, hne⟩
  item := by
    intro X hP hw hK hc i pins s σ H E I hf st hg
    subst hP hw hK
    obtain ⟨⟨old, he⟩, hit, hne, hai, hea⟩ := st
    obtain ⟨xs, x, hq, hx⟩ := hg
    obtain ⟨its, rv, p, _⟩ := hq.src I
    obtain ⟨u, hu, ru⟩ := rv.get hx
    have hel : e < s.heap.objs.size := Heap.lt_size he
    have hil : it < s.heap.objs.size := by obtain ⟨_, q, _⟩ := hit.obj; exact Heap.lt_size q
    have hlt : i < its.toArray.size := by
      have := (List.getElem?_eq_some_iff.mp hu).1
      simpa using this
    refine wpAny_pyNext_enum_itemD (src_draws (by exact I.ok.hd hc) kd it a hai its.toArray) he ⟨hit, p⟩ hlt hne (by simp [hne, hea]) fun x' h' tk hP ho hit' hT hsz hk => ?_
    have ex : x' = u := by
      have h1 : its.toArray[i]? = some u := by simpa using hu
      rw [h1] at hP
      exact (Option.some.inj hP).symm
    subst ex
    refine ⟨_, rfl, wpAny_letOwnedTupleGo_enum (s := { s with heap := h', toks := tk + 1 }) ho fun h'' he' sb => ?_⟩
    have hT2 : h''.get? s.heap.objs.size = some { cls := .type "tuple", data := .seq #[.int i tk, x'] } := (sb.2 _ (Nat.ne_of_gt hel)).trans hT
    have new : ObjOk X.prog X.w (upd H s.heap.objs.size (.tup [.int (i : Nat), x])) h'' s.heap.objs.size (.tup [.int (i : Nat), x]) :=
      ⟨by show 2 ≤ sizeLine; decide, [.int i tk, x'], .cons ⟨_, rfl⟩ (.cons ru .nil), ⟨_, hT2, rfl, _, rfl⟩⟩
    have I1 : Inv X pins σ (upd H s.heap.objs.size (.tup [.int (i : Nat), x])) { s with heap := h'', toks := tk + 1 } :=
      I.turnedNew (ch := [e, it]) (fun b ob hb q => (sb.2 b (fun z => hb (by simp [z]))).trans (hk b ob (fun z => hb (by simp [z])) (fun z => hb (by simp [z])) q)) hf (Nat.le_refl _) new
    refine ⟨.ref s.heap.objs.size, _, I1, rfl, ⟨_, x, rfl, I.hok.fresh (Nat.le_refl _), rfl, fun ys hy => by rw [hy.inj I hq]; exact hx⟩, ⟨⟨x', ?_⟩, hit'.1.at' fun o q => (sb.2 it (Ne.symm hne)).trans q, hne, hai, hea⟩, fun b hb => ?_⟩
    · have e1 : ((i + 1 : Nat) : Int) = (i : Int) + 1 := by omega
      rw [e1]; exact he'
    · have hb' : b < s.heap.objs.size := by
        have e' : b = e ∨ b = it := by simpa using hb
        rcases e' with z | z
        · rw [z]; exact hel
        · rw [z]; exact hil
      rw [upd_ne (Nat.ne_of_lt hb')]
      exact (hf b hb).1
  done := by
    intro X hP hw hK hc i pins s σ H E I hf st hg
    subst hP hw hK
    obtain ⟨⟨old, he⟩, hit, hne, hai, hea⟩ := st
    obtain ⟨xs, hq, hx⟩ := hg
    obtain ⟨its, rv, p, _⟩ := hq.src I
    obtain ⟨f0, f1, f2, f3, f4, f5⟩ := hf it (by simp)
    have hl : i = its.toArray.size := by
      have := rv.length
      simp
      omega
    subst hl
    exact wpAny_pyNext_enum_endD (src_draws (by exact I.ok.hd hc) kd it a hai its.toArray) he ⟨hit, p⟩ fun h' eb => ⟨rfl, I.turned (t' := s.toks) (fun b o hb q => eb b o hb q) f0 f1 f3 f4 f5⟩
  self := fun A i s Q E st h => let ⟨⟨_, he⟩, _⟩ := st; wpAny_pyIter_enum he h
def iEnumB (K : PySem.W.Frag) (ta : TA) : TI := fun σ H R => ta σ H fun vs H1 => ∃ kd a xs, vs = [.ref a] ∧ SqB kd K H1 a xs ∧ R (ItE kd K a) H1
theorem pi_enumB {X : Cx} {e : Expr} {ta : TA} {p pos tpos : Pos} {elts : List Expr} {kk : Nat} (hg : Gl X "enumerate") (hm : X.mg "enumerate" = none) (ha : PA X [e] ta) (hs : starEach [e] X.env = [(false, eval e X.env)] := by rfl) :
    PI X (.Tuple elts kk tpos) (.Call (.Name "enumerate" p) [e] [] pos) (iEnumB X.K ta) := by
  refine ⟨fun pins s σ H R I h => ?_⟩
  refine Call_ (ld_blt I hg hm boot_enumerate (PyProof.Rows.callWith_type1 (thn (ha.run pos pins s σ H _ I h) fun us s1 ⟨vs, H1, I1, r1, q1⟩ => ?_) hs rfl))
  obtain ⟨kd, a, xs, ex, hq, q⟩ := q1
  subst ex
  cases r1 with
  | cons r rr =>
    cases rr
    cases r
    obtain ⟨its, rv, p', hlt⟩ := hq.src I1
    refine enum_begins1 (src_begins kd a its.toArray) p' fun h' he hit hsz hk => wpAny_pyIter_enum he ?_
    have I2 : Inv X pins σ H1 { s1 with heap := h' } := I1.kept (t' := s1.toks) hk
    refine ⟨s1.heap.objs.size + 1, [s1.heap.objs.size + 1, s1.heap.objs.size], _, _, H1, rfl, I2, turn_enumB kd a (s1.heap.objs.size + 1) s1.heap.objs.size, ⟨⟨.none, he⟩, src_new hit, Nat.succ_ne_self _, Nat.ne_of_lt hlt, Nat.ne_of_gt (Nat.lt_succ_of_lt hlt)⟩, fun b hb => ?_, q⟩
    have e' : b = s1.heap.objs.size + 1 ∨ b = s1.heap.objs.size := by simpa using hb
    have hle : s1.heap.objs.size ≤ b := by
      rcases e' with z | z
      · rw [z]; exact Nat.le_add_right _ _
      · rw [z]; exact Nat.le_refl _
    exact I1.fpOk hle (I1.hok.fresh hle)
theorem walk_enumB {kd : Bool} {K : PySem.W.Frag} {a : Addr} {xs : List V} : Walk (ItE kd K a) xs.length (fun H => SqB kd K H a xs) (YPair (fun i => some (.int (i : Nat))) (fun i => xs[i]?)) := by
  refine ⟨fun i H hi g => ⟨xs, xs[i], g, by simp [hi]⟩, fun H g => ⟨xs, g, rfl⟩, fun i H x H' hi g y => ?_⟩
  obtain ⟨T, z, e, n, e2, f⟩ := y
  exact ⟨T, _, z, e, n, e2, rfl, f xs g⟩

/-! ### zip -/
def ItZ (k1 k2 : Bool) (K : PySem.W.Frag) (a b : Addr) : It :=
  ⟨fun i H => ∃ (xs ys : List V) (x y : V), SqB k1 K H a xs ∧ SqB k2 K H b ys ∧ xs[i]? = some x ∧ ys[i]? = some y,
    fun i H v H' => ∃ T x y, v = .ref T ∧ H T = none ∧ H' = upd H T (.tup [x, y]) ∧ (∀ xs, SqB k1 K H a xs → xs[i]? = some x) ∧ ∀ ys, SqB k2 K H b ys → ys[i]? = some y,
    fun i H => ∃ xs ys : List V, SqB k1 K H a xs ∧ SqB k2 K H b ys ∧ i ≤ xs.length ∧ i ≤ ys.length ∧ (i = xs.length ∨ i = ys.length)⟩
structure ZAp (z TI TO i1 i2 a b : Addr) : Prop where
  S : ZipSep2 z TI TO i1 i2 [i1, a] [i2, b]
  a1 : a ≠ i1
  b2 : b ≠ i2
theorem turn_zipB {P : Program} {w : World} {K : PySem.W.Frag} {elts : List Expr} {kk : Nat} {tpos : Pos} (k1 k2 : Bool) {a b z TI TO i1 i2 : Addr} (D : ZAp z TI TO i1 i2 a b) :
    Turn P w K (.Tuple elts kk tpos) (ItZ k1 k2 K a b) [z, TI, TO, i1, i2] z (fun i h => IsZip h z TI TO .none ∧ IsTupOf2 h TI (.ref i1) (.ref i2) ∧ (∃ x y, IsTupOf2 h TO x y) ∧ SrcIt k1 h i1 a i ∧ SrcIt k2 h i2 b i) where
  mem := by simp
  obj := fun i h st c hc => by
    obtain ⟨hz, hTI, ⟨x, y, hTO⟩, h1, h2⟩ := st
    have e' : c = z ∨ c = TI ∨ c = TO ∨ c = i1 ∨ c = i2 := by simpa using hc
    rcases e' with q | q | q | q | q
    · rw [q]; exact ⟨_, hz, fun v q => nomatch q⟩
    · rw [q]; exact ⟨_, hTI, fun v q => nomatch q⟩
    · rw [q]; exact ⟨_, hTO, fun v q => nomatch q⟩
    · rw [q]; exact h1.obj
    · rw [q]; exact h2.obj
  keep := fun i h h' st k => by
    obtain ⟨hz, hTI, ⟨x, y, hTO⟩, h1, h2⟩ := st
    exact ⟨k z (by simp) _ hz, k TI (by simp) _ hTI, ⟨x, y, k TO (by simp) _ hTO⟩, h1.at' fun o q => k i1 (by simp) o q, h2.at' fun o q => k i2 (by simp) o q⟩
  item := by
    intro X hP hw hK hc i pins s σ H E I hf st hg
    subst hP hw hK
    obtain ⟨hz, hTI, ⟨x0, y0, hTO⟩, h1, h2⟩ := st
    obtain ⟨xs, ys, x, y, hqx, hqy, hx, hy⟩ := hg
    obtain ⟨its, rv, p, _⟩ := hqx.src I
    obtain ⟨its2, rv2, p2, _⟩ := hqy.src I
    obtain ⟨u, hu, ru⟩ := rv.get hx
    obtain ⟨u2, hu2, ru2⟩ := rv2.get hy
    have hzl : z < s.heap.objs.size := Heap.lt_size hz
    have l1 : i < its.toArray.size := by simpa using (List.getElem?_eq_some_iff.mp hu).1
    have l2 : i < its2.toArray.size := by simpa using (List.getElem?_eq_some_iff.mp hu2).1
    have hh : X.A.handled = none := I.ok.hd hc
    refine wpAny_pyNext_zipD2_item D.S (src_draws (by exact hh) k1 i1 a D.a1 its.toArray) (src_draws (by exact hh) k2 i2 b D.b2 its2.toArray) hz hTI hTO ⟨h1, p⟩ ⟨h2, p2⟩ l1 l2 fun x1 x2 h' tk q1 q2 z' TO' s1' s2' hT hsz hk => ?_
    have e1 : x1 = u := by
      have r : its.toArray[i]? = some u := by simpa using hu
      rw [r] at q1
      exact (Option.some.inj q1).symm
    have e2 : x2 = u2 := by
      have r : its2.toArray[i]? = some u2 := by simpa using hu2
      rw [r] at q2
      exact (Option.some.inj q2).symm
    subst e1 e2
    refine ⟨_, rfl, wpAny_letOwnedTupleGo_zip (s := { s with heap := h', toks := tk }) z' fun h'' z'' sb => ?_⟩
    have hT2 : h''.get? s.heap.objs.size = some { cls := .type "tuple", data := .seq #[x1, x2] } := (sb.2 _ (Nat.ne_of_gt hzl)).trans hT
    have new : ObjOk X.prog X.w (upd H s.heap.objs.size (.tup [x, y])) h'' s.heap.objs.size (.tup [x, y]) :=
      ⟨by show 2 ≤ sizeLine; decide, [x1, x2], .cons ru (.cons ru2 .nil), ⟨_, hT2, rfl, _, rfl⟩⟩
    have I1 : Inv X pins σ (upd H s.heap.objs.size (.tup [x, y])) { s with heap := h'', toks := tk } :=
      I.turnedNew (t' := tk) (ch := [z, TI, TO, i1, i2]) (fun c o hb q => (sb.2 c (fun q' => hb (by simp [q']))).trans (hk c o (fun q' => hb (by simp [q'])) (fun q' => hb (by simp [q'])) (fun q' => hb (by simp [q'])) (fun q' => hb (by simp [q'])) q)) hf (Nat.le_refl _) new
    refine ⟨.ref s.heap.objs.size, _, I1, rfl, ⟨_, x, y, rfl, I.hok.fresh (Nat.le_refl _), rfl, fun l hl => by rw [hl.inj I hqx]; exact hx, fun l hl => by rw [hl.inj I hqy]; exact hy⟩, ⟨z'', ?_, ⟨x1, x2, ?_⟩, ?_, ?_⟩, fun c hcm => ?_⟩
    · exact (sb.2 _ D.S.TIz).trans (hk _ _ D.S.TIz D.S.TITO D.S.TIi1 D.S.TIi2 hTI)
    · exact (sb.2 _ D.S.TOz).trans TO'
    · exact s1'.1.at' fun o q => (sb.2 _ (Ne.symm D.S.zi1)).trans q
    · exact s2'.1.at' fun o q => (sb.2 _ (Ne.symm D.S.zi2)).trans q
    · have hlt : c < s.heap.objs.size := by
        have e' : c = z ∨ c = TI ∨ c = TO ∨ c = i1 ∨ c = i2 := by simpa using hcm
        rcases e' with q | q | q | q | q
        · rw [q]; exact hzl
        · rw [q]; exact Heap.lt_size hTI
        · rw [q]; exact Heap.lt_size hTO
        · rw [q]; obtain ⟨_, e1, _⟩ := h1.obj; exact Heap.lt_size e1
        · rw [q]; obtain ⟨_, e2, _⟩ := h2.obj; exact Heap.lt_size e2
      rw [upd_ne (Nat.ne_of_lt hlt)]
      exact (hf c hcm).1
  done := by
    intro X hP hw hK hc i pins s σ H E I hf st hg
    subst hP hw hK
    obtain ⟨hz, hTI, ⟨x0, y0, hTO⟩, h1, h2⟩ := st
    obtain ⟨xs, ys, hqx, hqy, le1, le2, hend⟩ := hg
    obtain ⟨its, rv, p, _⟩ := hqx.src I
    obtain ⟨its2, rv2, p2, _⟩ := hqy.src I
    have l1 := rv.length
    have l2 := rv2.length
    have hh : X.A.handled = none := I.ok.hd hc
    exact wpAny_pyNext_zipD2_end D.S (src_draws (by exact hh) k1 i1 a D.a1 its.toArray) (src_draws (by exact hh) k2 i2 b D.b2 its2.toArray) hz hTI hTO ⟨h1, p⟩ ⟨h2, p2⟩ (by simp; omega) (by simp; omega) (by simp; omega) fun h' tk hk => ⟨rfl, I.turnedL (t' := tk) (ch := [z, TI, TO, i1, i2]) (fun c o hb q =>
      hk c o (fun q' => hb (by simp [q'])) (fun q' => hb (by simp [q'])) (fun q' => hb (by simp [q'])) (fun q' => hb (by simp [q'])) q) hf⟩
  self := fun A i s Q E st h => wpAny_pyIter_zip st.1 h
def iZipB (K : PySem.W.Frag) (ta : TA) : TI := fun σ H R => ta σ H fun vs H1 => ∃ k1 k2 a b xs ys, vs = [.ref a, .ref b] ∧ SqB k1 K H1 a xs ∧ SqB k2 K H1 b ys ∧ R (ItZ k1 k2 K a b) H1
theorem pi_zipB {X : Cx} {e e2 : Expr} {ta : TA} {p pos tpos : Pos} {elts : List Expr} {kk : Nat} (hg : Gl X "zip") (hm : X.mg "zip" = none) (ha : PA X [e, e2] ta)
    (hs : starEach [e, e2] X.env = (false, eval e X.env) :: starEach [e2] X.env := by rfl) (hpl : (backTo pos (starEach [e2] X.env)).any (·.1) = false := by rfl) :
    PI X (.Tuple elts kk tpos) (.Call (.Name "zip" p) [e, e2] [] pos) (iZipB X.K ta) := by
  refine ⟨fun pins s σ H R I h => ?_⟩
  refine Call_ (ld_blt I hg hm PyProof.Rows.boot_zip (PyProof.Rows.callWith_type1 (thn (ha.run pos pins s σ H _ I h) fun us s1 ⟨vs, H1, I1, r1, q1⟩ => ?_) hs hpl))
  obtain ⟨k1, k2, a, b, xs, ys, ex, hqx, hqy, q⟩ := q1
  subst ex
  cases r1 with
  | cons r rr =>
    cases rr with
    | cons r' rr =>
      cases rr
      cases r
      cases r'
      obtain ⟨its, rv, p1, la⟩ := hqx.src I1
      obtain ⟨its2, rv2, p2, lb⟩ := hqy.src I1
      refine zip_begins2 (src_begins k1 a its.toArray) (src_begins k2 b its2.toArray) p1 p2 fun h' hz hTI hTO h1 h2 hsz hk => wpAny_pyIter_zip hz ?_
      have I2 : Inv X pins σ H1 { s1 with heap := h' } := I1.kept (t' := s1.toks) hk
      have ap : ZAp (s1.heap.objs.size + 4) (s1.heap.objs.size + 2) (s1.heap.objs.size + 3) s1.heap.objs.size (s1.heap.objs.size + 1) a b :=
        ⟨zip_sep2 (fp1 := [a]) (fp2 := [b]) (fun c hc => by rw [List.mem_singleton.mp hc]; exact la) (fun c hc => by rw [List.mem_singleton.mp hc]; exact lb), Nat.ne_of_lt la, Nat.ne_of_lt (Nat.lt_succ_of_lt lb)⟩
      refine ⟨s1.heap.objs.size + 4, [s1.heap.objs.size + 4, s1.heap.objs.size + 2, s1.heap.objs.size + 3, s1.heap.objs.size, s1.heap.objs.size + 1], _, _, H1, rfl, I2, turn_zipB k1 k2 ap, ⟨hz, hTI, ⟨_, _, hTO⟩, src_new h1, src_new h2⟩, fun c hcm => ?_, q⟩
      have e' : c = s1.heap.objs.size + 4 ∨ c = s1.heap.objs.size + 2 ∨ c = s1.heap.objs.size + 3 ∨ c = s1.heap.objs.size ∨ c = s1.heap.objs.size + 1 := by simpa using hcm
      have hle : s1.heap.objs.size ≤ c := by
        rcases e' with z | z | z | z | z
        · rw [z]; exact Nat.le_add_right _ _
        · rw [z]; exact Nat.le_add_right _ _
        · rw [z]; exact Nat.le_add_right _ _
        · rw [z]; exact Nat.le_refl _
        · rw [z]; exact Nat.le_add_right _ _
      exact I1.fpOk hle (I1.hok.fresh hle)
theorem walk_zipB {k1 k2 : Bool} {K : PySem.W.Frag} {a b : Addr} {xs ys : List V} {n : Nat} (hn : n = min xs.length ys.length) : Walk (ItZ k1 k2 K a b) n (fun H => SqB k1 K H a xs ∧ SqB k2 K H b ys) (YPair (fun i => xs[i]?) (fun i => ys[i]?)) := by
  refine ⟨fun i H hi g => ⟨xs, ys, xs[i]'(by omega), ys[i]'(by omega), g.1, g.2, by simp, by simp⟩, fun H g => ⟨xs, ys, g.1, g.2, by omega, by omega, by omega⟩, fun i H x H' hi g y => ?_⟩
  obtain ⟨T, z, z2, e, n, e2, f, f2⟩ := y
  exact ⟨T, z, z2, e, n, e2, f xs g.1, f2 ys g.2⟩
end Fb

set_option maxHeartbeats 4000000
/-! heaps, immutable data, the state of a walk, one lemma a reading -/
namespace Fb
open PySem L2

/-! ### heaps -/
def TupO : HO → Prop
  | .tup _ => True
  | .ext _ => True
  | .frz _ (.tup _) => True
  | _ => False
/-- tuples stay, those of which the object is known too -/
structure TK (H H' : Hp) : Prop where
  all : ∀ a o, TupO o → H a = some o → H' a = some o
  tb : ∀ p ∈ tabT, LamX.TabS H p.1 p.2 → LamX.TabS H' p.1 p.2
instance (H H' : Hp) : CoeFun (TK H H') (fun _ => ∀ a xs, H a = some (.tup xs) → H' a = some (.tup xs)) := ⟨fun t a xs h => t.all a _ trivial h⟩
theorem TK.refl (H : Hp) : TK H H := ⟨fun _ _ _ h => h, fun _ _ h => h⟩
theorem TK.trans {H H1 H2 : Hp} (a : TK H H1) (b : TK H1 H2) : TK H H2 := ⟨fun x o t h => b.all x o t (a.all x o t h), fun p m h => b.tb p m (a.tb p m h)⟩
theorem TK.same {H H' : Hp} (e : Same H H') : TK H H' := ⟨fun a o _ h => e a _ h, fun _ _ h => h.ext e⟩
theorem Same.new {H : Hp} {p : Addr} {o : HO} (h : H p = none) : Same H (upd H p o) := fun a u e => by
  rw [upd_ne (ne_of_none e h)]
  exact e
/-- all but what stands at B -/
def ExB (B : List Addr) (H H' : Hp) : Prop := ∀ a o, a ∉ B → H a = some o → H' a = some o
theorem ExB.same {B : List Addr} {H H' : Hp} (e : Same H H') : ExB B H H' := fun a o _ h => e a o h
theorem ExB.to {H H' : Hp} (e : ExB [] H H') : Same H H' := fun a o h => e a o (by simp) h

/-! ### data that never changes: ints, texts, bools, None, tuples of these -/
/-- a tuple whose object is known to be bare -/
def TupN (H : Hp) (a : Addr) (xs : List V) : Prop := ∃ o : Obj, o.cls = .type "tuple" ∧ o.dict = none ∧ H a = some (.frz o (.tup xs))
def TupAt (K : PySem.W.Frag) (H : Hp) (a : Addr) (xs : List V) : Prop := H a = some (.tup xs) ∨ (∀ H', SqT K H' a xs) ∨ TupN H a xs
theorem TupAt.sq {K : PySem.W.Frag} {H : Hp} {a : Addr} {xs : List V} (h : TupAt K H a xs) : SqT K H a xs := by
  rcases h with h | h | ⟨o, _, _, h⟩
  · exact SqT.of h
  · exact h H
  · exact .inl (.inr ⟨o, h⟩)
theorem TupN.keep {H H' : Hp} {a : Addr} {xs : List V} (t : TK H H') (h : TupN H a xs) : TupN H' a xs := let ⟨o, h1, h2, h3⟩ := h; ⟨o, h1, h2, t.all _ _ trivial h3⟩
theorem TupAt.keep {K : PySem.W.Frag} {H H' : Hp} {a : Addr} {xs : List V} (t : TK H H') (h : TupAt K H a xs) : TupAt K H' a xs := by
  rcases h with h | h | h
  · exact .inl (t _ _ h)
  · exact .inr (.inl h)
  · exact .inr (.inr (h.keep t))
mutual
inductive Dt (K : PySem.W.Frag) (H : Hp) : V → PyData → Prop
  | non : Dt K H .non .none
  | bl (b : Bool) : Dt K H (.bl b) (.bool b)
  | int (i : Int) : Dt K H (.int i) (.int i)
  | str (x : Str) : Dt K H (.str x) (.str x)
  | tup {a : Addr} {xs : List V} {ds : List PyData} : TupAt K H a xs → DtAll K H xs ds → Dt K H (.ref a) (.tuple ds)
inductive DtAll (K : PySem.W.Frag) (H : Hp) : List V → List PyData → Prop
  | nil : DtAll K H [] []
  | cons {v : V} {vs : List V} {d : PyData} {ds : List PyData} : Dt K H v d → DtAll K H vs ds → DtAll K H (v :: vs) (d :: ds)
end
section
variable {K : PySem.W.Frag} {H H' : Hp}
mutual
theorem Dt.keep (t : TK H H') : ∀ (d : PyData) (v : V), Dt K H v d → Dt K H' v d
  | .none, _, h => by cases h; exact .non
  | .bool b, _, h => by cases h; exact .bl b
  | .int i, _, h => by cases h; exact .int i
  | .str x, _, h => by cases h; exact .str x
  | .list _, _, h => by cases h
  | .tuple ds, _, h => by
    cases h with
    | tup hs ha => exact .tup (hs.keep t) (Dt.keepAll t ds _ ha)
  | .dict _, _, h => by cases h
theorem Dt.keepAll (t : TK H H') : ∀ (ds : List PyData) (vs : List V), DtAll K H vs ds → DtAll K H' vs ds
  | [], _, h => by cases h; exact .nil
  | d :: ds, _, h => by
    cases h with
    | cons h1 h2 => exact .cons (Dt.keep t d _ h1) (Dt.keepAll t ds _ h2)
end
mutual
theorem Dt.dp : ∀ (d : PyData) (v : V), Dt K H v d → Dp K H v d
  | .none, _, h => by cases h; exact .non
  | .bool b, _, h => by cases h; exact .bl b
  | .int i, _, h => by cases h; exact .int i
  | .str x, _, h => by cases h; exact .str x
  | .list _, _, h => by cases h
  | .tuple ds, _, h => by
    cases h with
    | tup hs ha => exact .tup hs.sq (Dt.dpAll ds _ ha)
  | .dict _, _, h => by cases h
theorem Dt.dpAll : ∀ (ds : List PyData) (vs : List V), DtAll K H vs ds → DpAll K H vs ds
  | [], _, h => by cases h; exact .nil
  | d :: ds, _, h => by
    cases h with
    | cons h1 h2 => exact .cons (Dt.dp d _ h1) (Dt.dpAll ds _ h2)
end
theorem Dt.tup_inv {v : V} {ds : List PyData} (h : Dt K H v (.tuple ds)) : ∃ a xs, v = .ref a ∧ TupAt K H a xs ∧ DtAll K H xs ds := by
  cases h with
  | tup hs ha => exact ⟨_, _, rfl, hs, ha⟩
theorem DtAll.len {xs : List V} {ds : List PyData} (h : DtAll K H xs ds) : xs.length = ds.length := by
  induction ds generalizing xs with
  | nil => cases h; rfl
  | cons d ds ih =>
    cases h with
    | cons h1 h2 => simp [ih h2]
theorem DtAll.get {xs : List V} {ds : List PyData} {i : Nat} {x : V} (h : DtAll K H xs ds) (e : xs[i]? = some x) : ∃ d, ds[i]? = some d ∧ Dt K H x d := by
  induction ds generalizing xs i with
  | nil => cases h; simp at e
  | cons d ds ih =>
    cases h with
    | cons h1 h2 =>
      cases i with
      | zero =>
        simp at e
        subst e
        exact ⟨d, rfl, h1⟩
      | succ i => exact ih h2 (by simpa using e)
theorem DtAll.at {xs : List V} {ds : List PyData} {i : Nat} {d : PyData} (h : DtAll K H xs ds) (e : ds[i]? = some d) : ∃ x, xs[i]? = some x ∧ Dt K H x d := by
  have hl := h.len
  have hi : i < ds.length := (List.getElem?_eq_some_iff.mp e).1
  have hx : xs[i]? = some (xs[i]'(by omega)) := by simp
  obtain ⟨d', e', k⟩ := h.get hx
  rw [e] at e'
  cases e'
  exact ⟨_, hx, k⟩
theorem DtAll.snoc {xs : List V} {ds : List PyData} {x : V} {d : PyData} (h : DtAll K H xs ds) (k : Dt K H x d) : DtAll K H (xs ++ [x]) (ds ++ [d]) := by
  induction ds generalizing xs with
  | nil => cases h; exact .cons k .nil
  | cons d ds ih =>
    cases h with
    | cons h1 h2 => exact .cons h1 (ih h2)
def kD : Key → PyData
  | .inl i => .int i
  | .inr x => .str x
theorem kD_dt (k : Key) : Dt K H (kV k) (kD k) := by
  cases k with
  | inl i => exact .int i
  | inr x => exact .str x
theorem kD_inv {k : Key} {v : V} (h : Dt K H v (kD k)) : v = kV k := by
  cases k with
  | inl i => cases h; rfl
  | inr x => cases h; rfl
theorem DtAll.keys {ks : List Key} {xs : List V} (h : DtAll K H xs (ks.map kD)) : xs = ks.map kV := by
  induction ks generalizing xs with
  | nil => cases h; rfl
  | cons k ks ih =>
    cases h with
    | cons h1 h2 => rw [kD_inv h1, ih h2]; rfl
theorem DtAll.of_keys (ks : List Key) : DtAll K H (ks.map kV) (ks.map kD) := by
  induction ks with
  | nil => exact .nil
  | cons k ks ih => exact .cons (kD_dt k) ih
theorem DtAll.ints {ns : List Int} {xs : List V} (h : DtAll K H xs (ns.map PyData.int)) : xs = ns.map V.int := by
  induction ns generalizing xs with
  | nil => cases h; rfl
  | cons k ks ih =>
    cases h with
    | cons h1 h2 => cases h1; rw [ih h2]; rfl
theorem DtAll.of_ints (ns : List Int) : DtAll K H (ns.map V.int) (ns.map PyData.int) := by
  induction ns with
  | nil => exact .nil
  | cons k ks ih => exact .cons (.int k) ih
end
/-- seats, networks, states as data -/
def seatsD (ks : List Key) : PyData := .tuple (ks.map kD)
def netD (net : List (List Key)) : PyData := .tuple (net.map seatsD)
def intsD (ns : List Int) : PyData := .tuple (ns.map PyData.int)
def queuesD (qs : List (List Int)) : PyData := .tuple (qs.map intsD)
def stD (n : Int) (qs : List (List Int)) : PyData := .tuple [.int n, queuesD qs]

/-! ### the state of a walk: H0 the heap at the entry, B what may change of it, L the objects one owns, P what is known and stays -/
def Pers (φ : Hp → Prop) : Prop := ∀ H H', TK H H' → φ H → φ H'
theorem Pers.tup {K : PySem.W.Frag} {a : Addr} {xs : List V} : Pers fun H => TupAt K H a xs := fun _ _ t h => h.keep t
theorem Pers.dt {K : PySem.W.Frag} {v : V} {d : PyData} : Pers fun H => Dt K H v d := fun _ _ t h => h.keep t
theorem Pers.all {K : PySem.W.Frag} {vs : List V} {ds : List PyData} : Pers fun H => DtAll K H vs ds := fun _ _ t h => Dt.keepAll t _ _ h
def isMut : HO → Prop
  | .tup _ => False
  | .ext _ => False
  | .frz _ (.tup _) => False
  | .tbl _ => False
  | _ => True
theorem mut_not {o : HO} (t : TupO o) (m : isMut o) : False := by
  unfold TupO at t
  unfold isMut at m
  split at t
  · exact m
  · exact m
  · exact m
  · exact t
/-- all but some changing objects stays -/
theorem TK.exB {B : List Addr} {H H' : Hp} (e : ExB B H H') (m : ∀ a, a ∈ B → ∃ o, H a = some o ∧ isMut o) : TK H H' := by
  have key : ∀ a o, ¬ isMut o → H a = some o → H' a = some o := fun a o n h => e a o (fun z => by
    obtain ⟨u, h1, h2⟩ := m a z
    rw [h] at h1
    cases h1
    exact n h2) h
  refine ⟨fun a o t h => key a o (fun m => mut_not t m) h, fun p _ ⟨ps, h1, h2, h3⟩ => ⟨ps, key _ _ (fun z => z) h1, h2, fun pos cv hc => ?_⟩⟩
  obtain ⟨c, e1, e2⟩ := h3 pos cv hc
  exact ⟨c, e1, key _ _ (fun z => z) e2⟩
structure Stt (B : List Addr) (H0 : Hp) (L : List (Addr × HO)) (P : List (Hp → Prop)) (H : Hp) : Prop where
  ex : ∀ a o, a ∉ B → H0 a = some o → H a = some o
  own : ∀ p ∈ L, H p.1 = some p.2
  mu : ∀ p ∈ L, isMut p.2
  fr : ∀ p ∈ L, H0 p.1 = none ∨ p.1 ∈ B
  nd : (L.map (·.1)).Nodup
  ps : ∀ φ ∈ P, φ H
  pp : ∀ φ ∈ P, Pers φ
  tk : TK H0 H
section
variable {K : PySem.W.Frag} {B : List Addr} {H0 H H' : Hp} {L : List (Addr × HO)} {P : List (Hp → Prop)}
theorem Stt.init (H : Hp) : Stt [] H [] [] H := ⟨fun _ _ _ h => h, fun _ h => (List.not_mem_nil h).elim, fun _ h => (List.not_mem_nil h).elim, fun _ h => (List.not_mem_nil h).elim, List.nodup_nil, fun _ h => (List.not_mem_nil h).elim, fun _ h => (List.not_mem_nil h).elim, TK.refl H⟩
/-- what stands at B may change, as the caller owns it -/
theorem Stt.start (B : List Addr) (L : List (Addr × HO)) (H : Hp) (h : ∀ p ∈ L, H p.1 = some p.2 ∧ isMut p.2) (e : L.map (·.1) = B) (nd : B.Nodup) : Stt B H L [] H :=
  ⟨fun _ _ _ h => h, fun p m => (h p m).1, fun p m => (h p m).2, fun p m => .inr (by rw [← e]; exact List.mem_map_of_mem m), by rw [e]; exact nd, fun _ h => (List.not_mem_nil h).elim, fun _ h => (List.not_mem_nil h).elim, TK.refl H⟩
theorem Stt.same (s : Stt [] H0 L P H) : Same H0 H := fun a o h => s.ex a o (by simp) h
theorem Stt.at (s : Stt B H0 L P H) (k : Nat) {a : Addr} {o : HO} (h : L[k]? = some (a, o)) : H a = some o := s.own (a, o) (List.mem_of_getElem? h)
theorem Stt.isNew (s : Stt [] H0 L P H) (k : Nat) {a : Addr} {o : HO} (h : L[k]? = some (a, o)) : H0 a = none := (s.fr (a, o) (List.mem_of_getElem? h)).resolve_right (by simp)
theorem Stt.ne (s : Stt B H0 L P H) (i j : Nat) {a b : Addr} {o o' : HO} (h : L[i]? = some (a, o)) (h' : L[j]? = some (b, o')) (n : i ≠ j) : a ≠ b := fun e => by
  have a1 : (L.map (·.1))[i]? = some a := by rw [List.getElem?_map, h]; rfl
  have a2 : (L.map (·.1))[j]? = some a := by rw [List.getElem?_map, h', e]; rfl
  exact n (nd_ix s.nd a1 a2)
theorem Stt.pers (s : Stt B H0 L P H) (k : Nat) {φ : Hp → Prop} (h : P[k]? = some φ) : φ H := s.ps φ (List.mem_of_getElem? h)
theorem Stt.tk_ps {P : List (Hp → Prop)} (pp : ∀ φ ∈ P, Pers φ) (ps : ∀ φ ∈ P, φ H) (t : TK H H') : ∀ φ ∈ P, φ H' := fun φ h => pp φ h _ _ t (ps φ h)
/-- all is kept -/
theorem Stt.ext (s : Stt B H0 L P H) (e : Same H H') : Stt B H0 L P H' :=
  ⟨fun a o h0 h => e a o (s.ex a o h0 h), fun p h => e _ _ (s.own p h), s.mu, s.fr, s.nd, Stt.tk_ps s.pp s.ps (TK.same e), s.pp, s.tk.trans (TK.same e)⟩
/-- something new is known -/
theorem Stt.know (s : Stt B H0 L P H) {φ : Hp → Prop} (h : φ H) (k : Pers φ) : Stt B H0 L (P ++ [φ]) H :=
  ⟨s.ex, s.own, s.mu, s.fr, s.nd, fun ψ m => by
    rcases List.mem_append.mp m with m | m
    · exact s.ps ψ m
    · rw [List.mem_singleton.mp m]; exact h, fun ψ m => by
    rcases List.mem_append.mp m with m | m
    · exact s.pp ψ m
    · rw [List.mem_singleton.mp m]; exact k, s.tk⟩
/-- a new object of one's own, made by a call that keeps all -/
theorem Stt.fresh (s : Stt B H0 L P H) {p : Addr} {o : HO} (hp : H p = none) (e : Same H H') (h : H' p = some o) (m : isMut o) : Stt B H0 (L ++ [(p, o)]) P H' := by
  have s' := s.ext e
  refine ⟨s'.ex, fun q hq => ?_, fun q hq => ?_, fun q hq => ?_, ?_, s'.ps, s.pp, s'.tk⟩
  · rcases List.mem_append.mp hq with hq | hq
    · exact s'.own q hq
    · rw [List.mem_singleton.mp hq]; exact h
  · rcases List.mem_append.mp hq with hq | hq
    · exact s.mu q hq
    · rw [List.mem_singleton.mp hq]; exact m
  · rcases List.mem_append.mp hq with hq | hq
    · exact s.fr q hq
    · rw [List.mem_singleton.mp hq]
      by_cases hb : p ∈ B
      · exact .inr hb
      · left
        show H0 p = none
        cases q : H0 p with
        | none => rfl
        | some u =>
          have := s.ex p u hb q
          rw [hp] at this
          cases this
  · rw [List.map_append]
    refine List.nodup_append.mpr ⟨s.nd, by simp, ?_⟩
    intro a ha b hb
    have eb : b = p := by simpa using hb
    subst eb
    obtain ⟨q, hq, rfl⟩ := List.mem_map.mp ha
    intro e
    have := s.own q hq
    rw [e, hp] at this
    cases this
theorem Stt.new (s : Stt B H0 L P H) {p : Addr} {o : HO} (hp : H p = none) (m : isMut o) : Stt B H0 (L ++ [(p, o)]) P (upd H p o) := s.fresh hp (Same.new hp) upd_same m
/-- a new tuple -/
theorem Stt.newT (K : PySem.W.Frag) (s : Stt B H0 L P H) {p : Addr} {xs : List V} (hp : H p = none) : Stt B H0 L (P ++ [fun H => TupAt K H p xs]) (upd H p (.tup xs)) :=
  (s.ext (Same.new hp)).know (.inl upd_same) Pers.tup
/-- objects of one's own changed -/
theorem Stt.upds {L1 L1' L2 : List (Addr × HO)} (s : Stt B H0 (L1 ++ L2) P H) (en : L1'.map (·.1) = L1.map (·.1)) (e : ExB (L1.map (·.1)) H H') (n : ∀ p ∈ L1', H' p.1 = some p.2) (m : ∀ p ∈ L1', isMut p.2) : Stt B H0 (L1' ++ L2) P H' := by
  have inL : ∀ {a}, a ∈ L1.map (·.1) → ∃ o, H a = some o ∧ isMut o := fun {a} ha => by
    obtain ⟨q, hq, rfl⟩ := List.mem_map.mp ha
    exact ⟨q.2, s.own q (List.mem_append_left _ hq), s.mu q (List.mem_append_left _ hq)⟩
  have nd := s.nd
  rw [List.map_append] at nd
  have t : TK H H' := TK.exB e fun a ha => inL ha
  refine ⟨fun a o hb h => ?_, fun q hq => ?_, fun q hq => ?_, fun q hq => ?_, ?_, Stt.tk_ps s.pp s.ps t, s.pp, s.tk.trans t⟩
  · refine e a o (fun z => ?_) (s.ex a o hb h)
    obtain ⟨q, hq, rfl⟩ := List.mem_map.mp z
    rcases s.fr q (List.mem_append_left _ hq) with f | f
    · rw [f] at h; cases h
    · exact hb f
  · rcases List.mem_append.mp hq with hq | hq
    · exact n q hq
    · refine e _ _ (fun z => ?_) (s.own q (List.mem_append_right _ hq))
      exact (List.nodup_append.mp nd).2.2 q.1 z q.1 (List.mem_map_of_mem hq) rfl
  · rcases List.mem_append.mp hq with hq | hq
    · exact m q hq
    · exact s.mu q (List.mem_append_right _ hq)
  · rcases List.mem_append.mp hq with hq | hq
    · have : q.1 ∈ L1.map (·.1) := by rw [← en]; exact List.mem_map_of_mem hq
      obtain ⟨q', hq', e'⟩ := List.mem_map.mp this
      have := s.fr q' (List.mem_append_left _ hq')
      rw [e'] at this
      exact this
    · exact s.fr q (List.mem_append_right _ hq)
  · rw [List.map_append, en]
    exact nd
/-- the k-th object of one's own changed -/
theorem Stt.set (s : Stt B H0 L P H) (k : Nat) {l : Addr} {o o' : HO} (h : L[k]? = some (l, o)) (m : isMut o') : Stt B H0 (L.set k (l, o')) P (upd H l o') := by
  have hk : k < L.length := (List.getElem?_eq_some_iff.mp h).1
  have em : (L.set k (l, o')).map (·.1) = L.map (·.1) := by
    rw [List.map_set]
    refine List.ext_getElem? fun j => ?_
    by_cases hj : k = j
    · subst hj
      rw [List.getElem?_set_self (by simpa using hk), List.getElem?_map, h]
      rfl
    · rw [List.getElem?_set_ne hj]
  have hne : ∀ j q, j ≠ k → L[j]? = some q → q.1 ≠ l := fun j q hj hq e => by
    have a1 : (L.map (·.1))[j]? = some l := by rw [List.getElem?_map, hq, ← e]; rfl
    have a2 : (L.map (·.1))[k]? = some l := by rw [List.getElem?_map, h]; rfl
    exact hj (nd_ix s.nd a1 a2)
  have hl := s.at k h
  have ml := s.mu (l, o) (List.mem_of_getElem? h)
  have t : TK H (upd H l o') := TK.exB (B := [l]) (fun a u hb q => by
    rw [upd_ne fun e => hb (by rw [e]; exact List.mem_singleton_self _)]
    exact q) fun a ha => by
    rw [List.mem_singleton.mp ha]
    exact ⟨o, hl, ml⟩
  have cases' : ∀ q ∈ L.set k (l, o'), q = (l, o') ∨ (q ∈ L ∧ q.1 ≠ l) := fun q hq => by
    obtain ⟨j, hj⟩ := List.getElem?_of_mem hq
    by_cases e : k = j
    · subst e
      rw [List.getElem?_set_self hk] at hj
      exact .inl (Option.some.inj hj).symm
    · rw [List.getElem?_set_ne e] at hj
      exact .inr ⟨List.mem_of_getElem? hj, hne j q (Ne.symm e) hj⟩
  refine ⟨fun a u hb q => ?_, fun q hq => ?_, fun q hq => ?_, fun q hq => ?_, by rw [em]; exact s.nd, Stt.tk_ps s.pp s.ps t, s.pp, s.tk.trans t⟩
  · have : a ≠ l := fun e => by
      subst e
      rcases s.fr _ (List.mem_of_getElem? h) with f | f
      · rw [f] at q; cases q
      · exact hb f
    rw [upd_ne this]
    exact s.ex a u hb q
  · rcases cases' q hq with e | ⟨m', ne⟩
    · rw [e]; exact upd_same
    · rw [upd_ne ne]; exact s.own q m'
  · rcases cases' q hq with e | ⟨m', ne⟩
    · rw [e]; exact m
    · exact s.mu q m'
  · rcases cases' q hq with e | ⟨m', ne⟩
    · rw [e]; exact s.fr (l, o) (List.mem_of_getElem? h)
    · exact s.fr q m'
theorem Stt.sqL (s : Stt B H0 L P H) (k : Nat) {a : Addr} {xs : List V} (h : L[k]? = some (a, .lst xs)) : SqL K H a xs := SqL.of (s.at k h)
theorem Stt.sqT (s : Stt B H0 L P H) (k : Nat) {a : Addr} {xs : List V} (h : P[k]? = some (fun H => TupAt K H a xs)) : SqT K H a xs := (s.pers k h).sq

theorem map_some_inj {α : Type} : ∀ {a b : List α}, a.map some = b.map some → a = b
  | [], [], _ => rfl
  | [], _ :: _, h => by simp at h
  | _ :: _, [], h => by simp at h
  | x :: a, y :: b, h => by
    simp only [List.map_cons, List.cons.injEq, Option.some.injEq] at h
    rw [h.1, map_some_inj h.2]
/-- some of one's own, by their places -/
theorem Stt.picks {L' : List (Addr × HO)} (s : Stt B H0 L P H) (ks : List Nat) (hk : ks.Nodup) (e : ks.map (fun k => L[k]?) = L'.map some) : Stt B H0 L' P H := by
  have sub : ∀ p ∈ L', p ∈ L := fun p hp => by
    have : some p ∈ L'.map some := List.mem_map_of_mem hp
    rw [← e] at this
    obtain ⟨k, _, hk⟩ := List.mem_map.mp this
    exact List.mem_of_getElem? hk
  refine ⟨s.ex, fun p h => s.own p (sub p h), fun p h => s.mu p (sub p h), fun p h => s.fr p (sub p h), ?_, s.ps, s.pp, s.tk⟩
  have key : ∀ (ks : List Nat) (L' : List (Addr × HO)), ks.Nodup → ks.map (fun k => L[k]?) = L'.map some → (L'.map (·.1)).Nodup := by
    intro ks
    induction ks with
    | nil =>
      intro L' _ e
      cases L' with
      | nil => simp
      | cons a b => simp at e
    | cons k ks ih =>
      intro L' hk e
      cases L' with
      | nil => simp at e
      | cons p L' =>
        simp only [List.map_cons, List.cons.injEq] at e
        obtain ⟨hk1, hk2⟩ := List.nodup_cons.mp hk
        refine List.nodup_cons.mpr ⟨fun m => ?_, ih L' hk2 e.2⟩
        obtain ⟨q, hq, eq⟩ := List.mem_map.mp m
        have : some q ∈ L'.map some := List.mem_map_of_mem hq
        rw [← e.2] at this
        obtain ⟨k', hk', eq'⟩ := List.mem_map.mp this
        have a1 : (L.map (·.1))[k]? = some p.1 := by rw [List.getElem?_map, e.1]; rfl
        have a2 : (L.map (·.1))[k']? = some p.1 := by
          have eq2 : q.1 = p.1 := eq
          rw [List.getElem?_map, eq', ← eq2]; rfl
        have := nd_ix s.nd a1 a2
        subst this
        exact hk1 hk'
  exact key ks L' hk e
/-- what is known no longer wanted -/
theorem Stt.only {P' : List (Hp → Prop)} (s : Stt B H0 L P H) (ks : List Nat) (e : ks.map (fun k => P[k]?) = P'.map some) : Stt B H0 L P' H := by
  have sub : ∀ p ∈ P', p ∈ P := fun p hp => by
    have : some p ∈ P'.map some := List.mem_map_of_mem hp
    rw [← e] at this
    obtain ⟨k, _, hk⟩ := List.mem_map.mp this
    exact List.mem_of_getElem? hk
  exact ⟨s.ex, s.own, s.mu, s.fr, s.nd, fun φ h => s.ps φ (sub φ h), fun φ h => s.pp φ (sub φ h), s.tk⟩
theorem Stt.forget (s : Stt B H0 L P H) : Stt B H0 L [] H := s.only [] rfl
/-- several new objects of one's own -/
theorem Stt.news (s : Stt B H0 L P H) {N : List (Addr × HO)} (h1 : ∀ p ∈ N, H p.1 = none) (e : Same H H') (h2 : ∀ p ∈ N, H' p.1 = some p.2) (m : ∀ p ∈ N, isMut p.2) (nd : (N.map (·.1)).Nodup) : Stt B H0 (L ++ N) P H' := by
  have s' := s.ext e
  refine ⟨s'.ex, fun q hq => ?_, fun q hq => ?_, fun q hq => ?_, ?_, s'.ps, s.pp, s'.tk⟩
  · rcases List.mem_append.mp hq with hq | hq
    · exact s'.own q hq
    · exact h2 q hq
  · rcases List.mem_append.mp hq with hq | hq
    · exact s.mu q hq
    · exact m q hq
  · rcases List.mem_append.mp hq with hq | hq
    · exact s.fr q hq
    · by_cases hb : q.1 ∈ B
      · exact .inr hb
      · left
        cases z : H0 q.1 with
        | none => rfl
        | some u =>
          have := s.ex q.1 u hb z
          rw [h1 q hq] at this
          cases this
  · rw [List.map_append]
    refine List.nodup_append.mpr ⟨s.nd, nd, ?_⟩
    intro a ha b hb
    obtain ⟨q, hq, rfl⟩ := List.mem_map.mp ha
    obtain ⟨q', hq', rfl⟩ := List.mem_map.mp hb
    intro e
    have := s.own q hq
    rw [e, h1 q' hq'] at this
    cases this
end

/-! ### one lemma a reading -/
section
variable {σ : St} {H : Hp} {D : Ends} {nx bk ct : St → Hp → Prop} {rt : VK} {Q : VK} {x y v : V} {ta tb tc te tx : TE} {t u : TS} {tr : TA} {r r' : R2} {K : PySem.W.Frag}
theorem i_seq (h : t ⟨u ⟨nx, rt, bk, ct⟩, rt, bk, ct⟩ σ H) : tSeq t u ⟨nx, rt, bk, ct⟩ σ H := h
theorem i_asg {g : TG} (h : te σ H fun x H1 => g x σ H1 nx) : tAsg te g ⟨nx, rt, bk, ct⟩ σ H := h
theorem i_name {i : Nat} {N : St → Hp → Prop} (h : N (σ.set i (some v)) H) : gName i v σ H N := h
theorem i_if {c : TT} (h : c σ H fun b H1 => if b = true then t D σ H1 else u D σ H1) : tIfS c t u D σ H := h
theorem i_ret (h : te σ H rt) : tRet te ⟨nx, rt, bk, ct⟩ σ H := h
theorem i_retN (h : rt .non H) : tRetN ⟨nx, rt, bk, ct⟩ σ H := h
theorem i_next (h : nx σ H) : tNext ⟨nx, rt, bk, ct⟩ σ H := h
theorem i_brk (h : bk σ H) : tBreak ⟨nx, rt, bk, ct⟩ σ H := h
theorem i_cont (h : ct σ H) : tCont ⟨nx, rt, bk, ct⟩ σ H := h
theorem i_drop (h : te σ H fun _ H1 => nx σ H1) : tDrop te ⟨nx, rt, bk, ct⟩ σ H := h
theorem i_var {i : Nat} (e : σ[i]? = some (some v)) (h : Q v H) : tVar i σ H Q := ⟨v, e, h⟩
theorem i_c (h : Q v H) : tC v σ H Q := h
theorem i_op (h : ta σ H fun x H1 => tb σ H1 fun y H2 => r x y H2 Q) : tOp r ta tb σ H Q := h
theorem i_un {r : V → Hp → VK → Prop} (h : ta σ H fun x H1 => r x H1 Q) : tUn r ta σ H Q := h
theorem i_I0 {g : Int → Int → V} {i j : Int} (h : Q (g i j) H) : rI0 g (.int i) (.int j) H Q := ⟨i, j, rfl, rfl, h⟩
theorem i_I {C : Int → Int → Prop} {g : Int → Int → V} {i j : Int} (c : C i j) (h : Q (g i j) H) : rI C g (.int i) (.int j) H Q := ⟨i, j, rfl, rfl, c, h⟩
theorem i_U {g : Int → V} {i : Int} (h : Q (g i) H) : rU g (.int i) H Q := ⟨i, rfl, h⟩
theorem i_eqI {i j : Int} (h : Q (.bl (decide (i = j))) H) : rEq (.int i) (.int j) H Q := ⟨rfl, by simpa using h⟩
theorem i_neI {i j : Int} (h : Q (.bl (!decide (i = j))) H) : rNe (.int i) (.int j) H Q := ⟨rfl, by simpa using h⟩
theorem i_eqS {i j : Str} (h : Q (.bl (decide (i = j))) H) : rEq (.str i) (.str j) H Q := ⟨rfl, by simpa using h⟩
theorem i_neS {i j : Str} (h : Q (.bl (!decide (i = j))) H) : rNe (.str i) (.str j) H Q := ⟨rfl, by simpa using h⟩
theorem i_eqB {i j : Bool} (h : Q (.bl (decide (i = j))) H) : rEq (.bl i) (.bl j) H Q := ⟨rfl, by simpa using h⟩
theorem i_neB {i j : Bool} (h : Q (.bl (!decide (i = j))) H) : rNe (.bl i) (.bl j) H Q := ⟨rfl, by simpa using h⟩
theorem i_test {N : Bool → Hp → Prop} (h : te σ H fun x H' => ∃ k, x = .bl k ∧ N k H') : tTest te σ H N := h
theorem i_tB {N : Bool → Hp → Prop} (h : te σ H fun x H' => ∃ k, x = .bl k ∧ N k H') : tB te σ H N := h
theorem i_bl {b : Bool} {N : Bool → Prop} (h : N b) : ∃ k, V.bl b = V.bl k ∧ N k := ⟨b, rfl, h⟩
theorem i_and {t1 t2 : TT} {N : Bool → Hp → Prop} (h : t1 σ H fun c H1 => if c = true then t2 σ H1 N else N false H1) : tAnd t1 t2 σ H N := h
theorem i_or {t1 t2 : TT} {N : Bool → Hp → Prop} (h : t1 σ H fun c H1 => if c = true then N true H1 else t2 σ H1 N) : tOr t1 t2 σ H N := h
theorem i_not {t1 : TT} {N : Bool → Hp → Prop} (h : t1 σ H fun c H1 => N (!c) H1) : tNot t1 σ H N := h
theorem i_andV (h : ta σ H fun x H1 => ∃ c, x = .bl c ∧ if c = true then tb σ H1 Q else Q (.bl false) H1) : tAndV ta tb σ H Q := h
theorem i_orV (h : ta σ H fun x H1 => ∃ c, x = .bl c ∧ if c = true then Q (.bl true) H1 else tb σ H1 Q) : tOrV ta tb σ H Q := h
theorem i_notV (h : ta σ H fun x H1 => ∃ c, x = .bl c ∧ Q (.bl (!c)) H1) : tNotV ta σ H Q := h
theorem i_ifE {c : TT} (h : c σ H fun b H1 => if b = true then ta σ H1 Q else tb σ H1 Q) : tIf c ta tb σ H Q := h
theorem i_chain (h : ta σ H fun x H1 => tb σ H1 fun y H2 => r x y H2 fun z H3 => ∃ k, z = .bl k ∧ (if k = true then tc σ H3 fun w' H4 => r' y w' H4 Q else Q (.bl false) H3)) : tChain r r' ta tb tc σ H Q := h
theorem i_nil {N : List V → Hp → Prop} (h : N [] H) : tNil σ H N := h
theorem i_cons {N : List V → Hp → Prop} (h : te σ H fun x H1 => tr σ H1 fun xs H2 => N (x :: xs) H2) : tCons te tr σ H N := h
theorem i_cb {r : List V → Hp → VK → Prop} (h : tr σ H fun vs H1 => r vs H1 Q) : tCB r tr σ H Q := h
theorem i_call {sp : Sp} {E : XK} (h : tr σ H fun vs H1 => sp vs H1 Q E) : tCall sp [] E tr σ H Q := by
  have e : (fun (vs : List V) H1 => sp (vs ++ []) H1 Q E) = fun vs H1 => sp vs H1 Q E := by
    funext vs H1
    rw [List.append_nil]
  show tr σ H fun vs H1 => sp (vs ++ []) H1 Q E
  rw [e]
  exact h
theorem i_tup (h : tr σ H fun xs H1 => xs.length ≤ sizeLine ∧ ∀ p, H1 p = none → Q (.ref p) (upd H1 p (.tup xs))) : tTup tr σ H Q := h
theorem i_lst (h : tr σ H fun xs H1 => xs.length ≤ sizeLine ∧ ∀ p, H1 p = none → Q (.ref p) (upd H1 p (.lst xs))) : tLst tr σ H Q := h
theorem i_ixL {p : Addr} {xs : List V} {i : Int} (h : SqL K H p xs) (e : atI xs i = some v) (q : Q v H) : rIxL K (.ref p) (.int i) H Q := ⟨p, xs, i, v, rfl, rfl, h, e, q⟩
theorem i_ixT {p : Addr} {xs : List V} {i : Int} (h : SqT K H p xs) (e : atI xs i = some v) (q : Q v H) : rIxT K (.ref p) (.int i) H Q := ⟨p, xs, i, v, rfl, rfl, h, e, q⟩
/-! len -/
def rLen (K : PySem.W.Frag) : List V → Hp → VK → Prop := fun xs H Q => ∃ x n, xs = [x] ∧ LenV K x H n ∧ Q (.int n) H
theorem f_len {X : Cx} : CallR X (.builtin "len") (rLen X.K) := call_len
theorem i_lenL {p : Addr} {xs : List V} (h : SqL K H p xs) (q : Q (.int (xs.length : Int)) H) : rLen K [.ref p] H Q := ⟨_, _, rfl, .inl ⟨xs, h, rfl⟩, q⟩
theorem i_lenT {p : Addr} {xs : List V} (h : SqT K H p xs) (q : Q (.int (xs.length : Int)) H) : rLen K [.ref p] H Q := ⟨_, _, rfl, .inr ⟨xs, h, rfl⟩, q⟩
theorem i_lenS {z : Str} (h : z.length ≤ sizeLine) (q : Q (.int (z.length : Int)) H) : rLen K [.str z] H Q := ⟨_, _, rfl, ⟨h, rfl⟩, q⟩
/-! isinstance(x, T), T one built-in class, x no instance -/
def rIsB (K : PySem.W.Frag) : List V → Hp → VK → Prop := fun xs H Q => ∃ (x : V) (a b : String) (k : Bool), xs = [x, .ty b] ∧ TyX K H x (.type a) ∧ kitB a b = some k ∧ Q (.bl k) H
theorem f_isi {X : Cx} : CallR X (.builtin "isinstance") (rIsB X.K) := fun pins s σ H xs us Q I r h => by
  obtain ⟨x, a, b, k, e, ty, kb, q⟩ := h
  exact call_isi pins s σ H xs us Q I r ⟨x, .ty b, .type a, .type b, k, e, .ty b, ty, kit_ty kb, q⟩
theorem i_isS {z : Str} {b : String} {k : Bool} (e : kitB "str" b = some k) (q : Q (.bl k) H) : rIsB K [.str z, .ty b] H Q := ⟨_, "str", b, k, rfl, .base (.str z), e, q⟩
theorem i_isI {i : Int} {b : String} {k : Bool} (e : kitB "int" b = some k) (q : Q (.bl k) H) : rIsB K [.int i, .ty b] H Q := ⟨_, "int", b, k, rfl, .base (.int i), e, q⟩
theorem i_isB {i : Bool} {b : String} {k : Bool} (e : kitB "bool" b = some k) (q : Q (.bl k) H) : rIsB K [.bl i, .ty b] H Q := ⟨_, "bool", b, k, rfl, .base (.bl i), e, q⟩
theorem i_isN {b : String} {k : Bool} (e : kitB "NoneType" b = some k) (q : Q (.bl k) H) : rIsB K [.non, .ty b] H Q := ⟨_, "NoneType", b, k, rfl, .base .non, e, q⟩
theorem ty_lst {a : Addr} {xs : List V} (h : SqL K H a xs) : TyX K H (.ref a) (.type "list") := by
  rcases h with (h | ⟨o, h⟩) | ⟨o, its, n, h, c, _⟩
  · exact .base (.lst h)
  · exact .base (.frz h)
  · exact .kList h c
theorem ty_tup {a : Addr} {xs : List V} (h : SqT K H a xs) : TyX K H (.ref a) (.type "tuple") := by
  rcases h with (h | ⟨o, h⟩) | ⟨o, its, n, h, c, _⟩
  · exact .base (.tup h)
  · exact .fTuple h
  · exact .kTuple h c
theorem i_isL {a : Addr} {xs : List V} {b : String} {k : Bool} (h : SqL K H a xs) (e : kitB "list" b = some k) (q : Q (.bl k) H) : rIsB K [.ref a, .ty b] H Q := ⟨_, "list", b, k, rfl, ty_lst h, e, q⟩
theorem i_isT {a : Addr} {xs : List V} {b : String} {k : Bool} (h : SqT K H a xs) (e : kitB "tuple" b = some k) (q : Q (.bl k) H) : rIsB K [.ref a, .ty b] H Q := ⟨_, "tuple", b, k, rfl, ty_tup h, e, q⟩
theorem i_isD {a : Addr} {kvs : List (Key × V)} {b : String} {k : Bool} (h : H a = some (.dK kvs)) (e : kitB "dict" b = some k) (q : Q (.bl k) H) : rIsB K [.ref a, .ty b] H Q := ⟨_, "dict", b, k, rfl, .base (.dK h), e, q⟩
/-! max, min of two; int of an int; abs -/
def rMax2 : List V → Hp → VK → Prop := fun xs H Q => ∃ i j, xs = [.int i, .int j] ∧ Q (.int (max i j)) H
def rMin2 : List V → Hp → VK → Prop := fun xs H Q => ∃ i j, xs = [.int i, .int j] ∧ Q (.int (min i j)) H
def rInt1 : List V → Hp → VK → Prop := fun xs H Q => ∃ i, xs = [.int i] ∧ Q (.int i) H
theorem f_max {X : Cx} (hc : X.calm = true) : CallR X (.builtin "max") rMax2 := fun pins s σ H xs us Q I r h => by
  obtain ⟨i, j, e, q⟩ := h
  refine call_max2 hc pins s σ H xs us Q I r ⟨i, j, e, ?_⟩
  have e2 : (if j > i then j else i) = max i j := by
    split <;> omega
  rw [e2]
  exact q
theorem f_min {X : Cx} (hc : X.calm = true) : CallR X (.builtin "min") rMin2 := fun pins s σ H xs us Q I r h => by
  obtain ⟨i, j, e, q⟩ := h
  refine call_min2 hc pins s σ H xs us Q I r ⟨i, j, e, ?_⟩
  have e2 : (if j < i then j else i) = min i j := by
    split <;> omega
  rw [e2]
  exact q
theorem f_int {X : Cx} : CallR X (.type "int") rInt1 := fun pins s σ H xs us Q I r h => by
  obtain ⟨i, e, q⟩ := h
  exact call_int1 pins s σ H xs us Q I r (.inl ⟨i, e, q⟩)
theorem i_max {i j : Int} (q : Q (.int (max i j)) H) : rMax2 [.int i, .int j] H Q := ⟨i, j, rfl, q⟩
theorem i_min {i j : Int} (q : Q (.int (min i j)) H) : rMin2 [.int i, .int j] H Q := ⟨i, j, rfl, q⟩
theorem i_int {i : Int} (q : Q (.int i) H) : rInt1 [.int i] H Q := ⟨i, rfl, q⟩
/-! targets that are tuples -/
theorem i_gtup {a : Addr} {xs : List V} {n : Nat} {g : TGs} {N : St → Hp → Prop} (h : SqT K H a xs) (e : xs.length = n) (q : g xs σ H N) : gTup K n g (.ref a) σ H N := ⟨a, xs, rfl, h, e, q⟩
theorem i_gcons {g : TG} {gs : TGs} {vs : List V} {N : St → Hp → Prop} (q : g v σ H fun σ' H' => gs vs σ' H' N) : gCons g gs (v :: vs) σ H N := ⟨v, vs, rfl, q⟩
theorem i_gnil {N : St → Hp → Prop} (q : N σ H) : gNil [] σ H N := ⟨rfl, q⟩
/-! loops and comprehensions: over a Walk -/
def ForIt (J : It) (g : TG) (tb : TS) (D : Ends) (σ : St) (H : Hp) : Prop := tFor (fun _ H R => R J H) g tb D σ H
theorem i_for {wi : TI} {g : TG} {tb : TS} (h : wi σ H fun J H1 => ForIt J g tb D σ H1) : tFor wi g tb D σ H := h
theorem ForIt.go {J : It} {n : Nat} {G : Hp → Prop} {Y : Nat → Hp → V → Hp → Prop} {g : TG} {tb : TS} (w : Walk J n G Y) (Pv : Nat → St → Hp → Prop) (h0 : Pv 0 σ H) (hG : ∀ i σ H, i ≤ n → Pv i σ H → G H)
    (hs : ∀ i x σ H H', i < n → Pv i σ H → Y i H x H' → g x σ H' fun σ2 H2 => tb ⟨Pv (i + 1), rt, nx, Pv (i + 1)⟩ σ2 H2) (hd : ∀ σ H, Pv n σ H → nx σ H) : ForIt J g tb ⟨nx, rt, bk, ct⟩ σ H :=
  for_it w (D := ⟨nx, rt, bk, ct⟩) Pv h0 hG hs hd
theorem i_pl {a : Addr} {xs : List V} {R : It → Hp → Prop} (h : SqL K H a xs) (q : R (Itl K a) H) : ∃ a', V.ref a = V.ref a' ∧ (∃ xs, SqL K H a' xs) ∧ R (Itl K a') H := ⟨a, rfl, ⟨xs, h⟩, q⟩
theorem i_iL {R : It → Hp → Prop} (h : te σ H fun x H1 => ∃ a, x = .ref a ∧ (∃ xs, SqL K H1 a xs) ∧ R (Itl K a) H1) : iList K te σ H R := h
theorem i_iT {R : It → Hp → Prop} (h : te σ H fun x H1 => ∃ a, x = .ref a ∧ (∃ xs, SqT K H1 a xs) ∧ R (Itt K a) H1) : iTup K te σ H R := h
theorem i_iR {R : It → Hp → Prop} (h : tr σ H fun vs H1 => ∃ j : Int, vs = [.int j] ∧ -(2 ^ 62) ≤ j ∧ j < 2 ^ 62 ∧ R (Itr 0 j.toNat) H1) : iRng1 tr σ H R := h
theorem i_iE {R : It → Hp → Prop} (h : tr σ H fun vs H1 => ∃ kd a xs, vs = [.ref a] ∧ SqB kd K H1 a xs ∧ R (ItE kd K a) H1) : iEnumB K tr σ H R := h
theorem i_iZ {R : It → Hp → Prop} (h : tr σ H fun vs H1 => ∃ k1 k2 a b xs ys, vs = [.ref a, .ref b] ∧ SqB k1 K H1 a xs ∧ SqB k2 K H1 b ys ∧ R (ItZ k1 k2 K a b) H1) : iZipB K tr σ H R := h
def LcIt (J : It) (g : TG) (tt : TT) (te : TE) (vs : List Nat) (σ : St) (H : Hp) (Q : VK) : Prop := tLc (fun _ H R => R J H) g tt te vs σ H Q
theorem i_lc {wi : TI} {g : TG} {tt : TT} {vs : List Nat} (h : wi σ H fun J H1 => LcIt J g tt te vs σ H1 Q) : tLc wi g tt te vs σ H Q := h
theorem LcIt.go {J : It} {n : Nat} {G : Hp → Prop} {Y : Nat → Hp → V → Hp → Prop} {g : TG} {tt : TT} {vs : List Nat} (w : Walk J n G Y) (Pv : Addr → Nat → Hp → Prop) (h0 : ∀ D, H D = none → Pv D 0 (upd H D (.lst []))) (hG : ∀ D i H, i ≤ n → Pv D i H → G H)
    (hs : ∀ D i x H H', i < n → Pv D i H → Y i H x H' → g x (wipe σ vs) H' fun σ2 H2 => wipe σ2 vs = wipe σ vs ∧ tt σ2 H2 fun b H3 =>
      if b = true then te σ2 H3 fun y H4 => ∃ acc, H4 D = some (.lst acc) ∧ acc.length < sizeLine ∧ Pv D (i + 1) (upd H4 D (.lst (acc ++ [y]))) else Pv D (i + 1) H3) (hd : ∀ D H', Pv D n H' → Q (.ref D) H') : LcIt J g tt te vs σ H Q :=
  fun D hD => lc_it w (Pv D) (h0 D hD) (hG D) (hs D) (hd D)
/-- a comprehension that makes the values that are told ahead, and changes nothing -/
theorem LcIt.map {J : It} {n : Nat} {G : Hp → Prop} {Y : Nat → Hp → V → Hp → Prop} {g : TG} {vs : List Nat} (w : Walk J n G Y) (ys : List V) (hn : ys.length = n) (hz : n < sizeLine) (hG : ∀ H', Same H H' → G H')
    (hs : ∀ i x y H1 H' (N : VK), i < n → ys[i]? = some y → Same H H1 → Y i H1 x H' → (∀ H4, Same H1 H4 → N y H4) → g x (wipe σ vs) H' fun σ2 H2 => wipe σ2 vs = wipe σ vs ∧ te σ2 H2 N)
    (hd : ∀ D H', H D = none → Same H H' → H' D = some (.lst ys) → Q (.ref D) H') : LcIt J g tYes te vs σ H Q := by
  refine LcIt.go w (fun D i H' => H D = none ∧ Same H H' ∧ H' D = some (.lst (ys.take i))) (fun D hD => ⟨hD, Same.new hD, by rw [upd_same]; rfl⟩) (fun D i H' _ p => hG H' p.2.1) ?_ (fun D H' p => hd D H' p.1 p.2.1 (by rw [p.2.2, List.take_of_length_le (by omega)]))
  intro D i x H1 H' hi p hy
  have hil : i < ys.length := by omega
  obtain ⟨p1, p2, p3⟩ := p
  exact hs i x (ys[i]) H1 H' _ hi (by simp [hil]) p2 hy fun H4 e4 => ⟨ys.take i, e4 _ _ p3, by rw [List.length_take]; omega, p1, (fun a o h => by
    rw [upd_ne (ne_of_none h p1)]
    exact e4 a o (p2 a o h)), by rw [upd_same, List.take_succ, List.getElem?_eq_getElem hil]; rfl⟩
end
end Fb

set_option maxHeartbeats 4000000
/-! defs by their names -/
namespace Fb
open PySem PySem.Spec PyProof.Rows L2
/-- a def of the module as the top leaves it -/
structure DefIn (K : PySem.W.Frag) (mg : Str → Option Value) (x qual : Str) (st : Stmt) : Prop where
  ex : ∃ f fd, Fun K x qual st f fd ∧ mg x = some (.ref f)
theorem DefIn.mk' {K : PySem.W.Frag} {h : Heap} {mg : Str → Option Value} {x qual : Str} {st : Stmt} (X : K.In h) (G : h.Ns mainGlobals mg) {f : Addr} {oc : Value} {od an : Option Addr} {osl : Array (Option Value)} {kV doc pm cdv ct : Value}
    (a : PySem.W.nsIn K mainGlobals x = some (some (.ref f)))
    (l : K.lookup f = some ⟨oc, od, .func (PySem.W.fnOf x qual (defArgs st) (defBody st) (defScope st) .none kV doc pm an cdv ct), osl⟩)
    (c : PySem.W.codeIn K cdv qual = true) (k : PySem.W.keepIn K (.ref f) = true) : DefIn K mg x qual st :=
  ⟨f, _, fun_mk l c k, PySem.W.mg_of X G a⟩
/-- a def that may be called by its name: it keeps the promise sp with room for k calls -/
structure Cal (P : Program) (w : World) (K : PySem.W.Frag) (mg : Str → Option Value) (base : Heap) (k : Nat) (x : Str) (sp : Sp) : Prop where
  ex : ∃ (f : Addr) (fd : FuncData) (ps : List Str), FnOk P w K mg base (L2.CX P w) k f fd ps sp ∧ mg x = some (.ref f) ∧ PySem.W.keepIn K (.ref f) = true ∧ Binds K fd ps []
section
variable {P : Program} {w : World} {K : PySem.W.Frag} {mg : Str → Option Value} {base : Heap}
theorem Cal.mono {j k : Nat} {x : Str} {sp : Sp} (c : Cal P w K mg base j x sp) (h : j ≤ k) : Cal P w K mg base k x sp := by
  obtain ⟨f, fd, ps, F, r⟩ := c.ex
  exact ⟨f, fd, ps, F.mono h, r⟩
theorem Cal.imp {k : Nat} {x : Str} {sp sp' : Sp} (c : Cal P w K mg base k x sp) (h : ∀ vs H Q E, sp' vs H Q E → sp vs H Q E) : Cal P w K mg base k x sp' := by
  obtain ⟨f, fd, ps, F, r⟩ := c.ex
  exact ⟨f, fd, ps, F.imp h, r⟩
/-- the law's own def, for the end -/
theorem fn_law {st : Stmt} {f : Addr} {fd : FuncData} {N : List Str} {x : Str} {k : Nat} {sp : Sp} (F : Fun K "law" "law" st f fd) (S : FnScope N [x] (defScope st)) (len : ∀ vs H Q E, sp vs H Q E → vs.length = 1)
    (hbody : ∀ (cdv : Value) (A : Around) (outer : List Env) (s : Shared) (H : Hp) (vs : List V) (Q : VK) (E : XK), Room k (A.deeper (envOfC "law" (defScope st) s.heap.objs.size f cdv)) → sp vs H Q E →
      ∃ t, PSs (cxOf (L2.CX P w) P w K mg base N "law" (defScope st) f cdv A outer s H E).nox (defBody st) t ∧ t { nx := fun _ H' => Q .non H', rt := Q } (start N vs) H) : FnOk P w K mg base (L2.CX P w) (k + 1) f fd [x] sp :=
  F.okX S len fun cdv A outer s H vs Q E hr h => by
    obtain ⟨t, p, q⟩ := hbody cdv A outer s H vs Q E hr h
    exact ⟨t, p.nox, q⟩
theorem fin_of {st : Stmt} {fa : Addr} {x : Str} {k : Nat} {sp : Sp} (D : DefIn K mg "law" "law" st) (h : mg "law" = some (.ref fa))
    (b : ∀ (kV doc pm : Value) (an : Option Addr) (cdv ct : Value) (us : List Value), us.length = 1 → bindArgs (PySem.W.fnOf "law" "law" (defArgs st) (defBody st) (defScope st) .none kV doc pm an cdv ct) ⟨us, []⟩ = pure ([x].zip us))
    (F : ∀ (base : Heap) (f : Addr) (fd : FuncData), Fun K "law" "law" st f fd → FnOk P w K mg base (L2.CX P w) k f fd [x] sp) :
    ∃ fd : FuncData, (∀ (s : Shared) (u : Value), BindsTo s fd ⟨[u], []⟩ [(x, u)]) ∧ ∀ base : Heap, K.In base → base.Ns mainGlobals mg → FnOk P w K mg base (L2.CX P w) k fa fd [x] sp := by
  obtain ⟨f, fd, Fu, hm⟩ := D.ex
  rw [h] at hm
  cases hm
  refine ⟨fd, fun s u => ?_, fun base _ _ => F base fa fd Fu⟩
  obtain ⟨oc, od, kV, doc, pm, an, cdv, ct, osl, rfl, lk, hcd⟩ := Fu.ex
  exact .of_eq (b kV doc pm an cdv ct [u] rfl)
/-- a def that raises nothing -/
theorem cal_of {x : Str} {st : Stmt} {N ps : List Str} {k : Nat} {sp : Sp} (D : DefIn K mg x x st) (S : FnScope N ps (defScope st))
    (b : ∀ (kV doc pm : Value) (an : Option Addr) (cdv ct : Value) (us : List Value), us.length = ps.length → bindArgs (PySem.W.fnOf x x (defArgs st) (defBody st) (defScope st) .none kV doc pm an cdv ct) ⟨us, []⟩ = pure (ps.zip us))
    (len : ∀ vs H Q E, sp vs H Q E → vs.length = ps.length)
    (hbody : ∀ (f : Addr) (cdv : Value) (A : Around) (outer : List Env) (s : Shared) (H : Hp) (vs : List V) (Q : VK) (E : XK), Room k (A.deeper (envOfC x (defScope st) s.heap.objs.size f cdv)) → sp vs H Q E →
      ∃ t, PSs (cxOf (L2.CX P w) P w K mg base N x (defScope st) f cdv A outer s H E).nox (defBody st) t ∧ t { nx := fun _ H' => Q .non H', rt := Q } (start N vs) H) : Cal P w K mg base (k + 1) x sp := by
  obtain ⟨f, fd, F, hm⟩ := D.ex
  exact ⟨f, fd, ps, F.okX S len (fun cdv A outer s H vs Q E hr h => by
    obtain ⟨t, p, q⟩ := hbody f cdv A outer s H vs Q E hr h
    exact ⟨t, p.nox, q⟩), hm, F.kp, F.binds b⟩
/-- a def that may raise -/
theorem cal_ofX {x : Str} {st : Stmt} {N ps : List Str} {k : Nat} {sp : Sp} (D : DefIn K mg x x st) (S : FnScope N ps (defScope st))
    (b : ∀ (kV doc pm : Value) (an : Option Addr) (cdv ct : Value) (us : List Value), us.length = ps.length → bindArgs (PySem.W.fnOf x x (defArgs st) (defBody st) (defScope st) .none kV doc pm an cdv ct) ⟨us, []⟩ = pure (ps.zip us))
    (len : ∀ vs H Q E, sp vs H Q E → vs.length = ps.length)
    (hbody : ∀ (f : Addr) (cdv : Value) (A : Around) (outer : List Env) (s : Shared) (H : Hp) (vs : List V) (Q : VK) (E : XK), Room k (A.deeper (envOfC x (defScope st) s.heap.objs.size f cdv)) → sp vs H Q E →
      ∃ t, PSs (cxOf (L2.CX P w) P w K mg base N x (defScope st) f cdv A outer s H E) (defBody st) t ∧ t { nx := fun _ H' => Q .non H', rt := Q } (start N vs) H) : Cal P w K mg base (k + 1) x sp := by
  obtain ⟨f, fd, F, hm⟩ := D.ex
  exact ⟨f, fd, ps, F.okX S len (hbody f), hm, F.kp, F.binds b⟩
end
section
variable {X : Cx} {k j : Nat} {x : Str} {sp : Sp} {p pos : Pos} {e : Expr} {es : List Expr} {t : TA}
theorem pc (c : Cal X.prog X.w X.K X.mg X.base k x sp) (hr : Room j X.A) (hk : k ≤ j) (ha : PA X (e :: es) t) (hg : Gl X x := by rfl)
    (hdb : (x == ("__debug__" : Str)) = false := by decide) (he : starEach (e :: es) X.env = (false, eval e X.env) :: starEach es X.env := by rfl) (hpl : (backTo pos (starEach es X.env)).any (·.1) = false := by rfl) :
    PE X (.Call (.Name x p) (e :: es) [] pos) (tCall sp [] E0 t) := by
  obtain ⟨f, fd, ps, F, hm, kp, b⟩ := c.ex
  exact pe_call F (hr.mono hk) hg hm kp b .nil passL ha hdb he hpl
/-- a list's item changed by an operator -/
theorem get_list : PGet X (rIxL X.K) := by
  intro pins s σ H o i ov iv Q I ro ri h
  obtain ⟨p, xs, i, z, rfl, rfl, hq, he, q⟩ := h
  cases ro
  obtain ⟨t, rfl⟩ := ri
  obtain ⟨its, r, pl, hz⟩ := I.list hq
  obtain ⟨j, h1, h2, h3, h4, h5⟩ := atI_get he
  obtain ⟨w, ew, rw'⟩ := r.get h2
  have hl := r.length
  have hn := line63
  have fin : EP X pins σ Q w s := ⟨z, H, I, rw', q⟩
  by_cases h0 : 0 ≤ i
  · have hj : i.toNat = j := by
      rw [seqIndex_of h0 h5] at h1
      exact Option.some.inj h1
    exact wpAny_getItem_list (x := w) pl.isList h0 (by omega) (by rw [hj]; simpa using ew) fin
  · have hj : (i + (its.toArray.size : Int)).toNat = j := by
      rw [seqIndex_neg (by omega) h4] at h1
      rw [List.size_toArray, ← hl]
      exact Option.some.inj h1
    exact wpAny_getItem_list_neg (x := w) pl.isList (by omega) (by rw [List.size_toArray] <;> omega) (by omega) (by rw [hj]; simpa using ew) fin
end
theorem i_augS {σ : L2.St} {H : Hp} {nx bk ct : L2.St → Hp → Prop} {rt : VK} {to ti te : TE} {tget : V → V → Hp → VK → Prop} {tip : TIp} {tset : TSet} (h : to σ H fun o H1 => ti σ H1 fun i H2 => tget o i H2 fun x H3 => te σ H3 fun y H4 => tip x y H4 fun z H5 => tset o i z H5 fun H6 => nx σ H6) : tAugS to ti te tget tip tset ⟨nx, rt, bk, ct⟩ σ H := h
theorem i_ipI {f : Int → Int → Int} {i j : Int} {H : Hp} {Q : VK} (h : Q (.int (f i j)) H) : ipI f (.int i) (.int j) H Q := ⟨i, j, rfl, rfl, h⟩
theorem i_setL {p : Addr} {xs : List V} {k : Int} {j : Nat} {v : V} {H : Hp} {N : Hp → Prop} (h : H p = some (.lst xs)) (e : ixN xs.length k = some j) (q : N (upd H p (.lst (xs.set j v)))) : rSetL (.ref p) (.int k) v H N := ⟨p, xs, k, j, rfl, rfl, h, e, q⟩
theorem i_aug {i : Nat} {te : TE} {ti : TIp} {x : V} {σ : L2.St} {H : Hp} {nx bk ct : L2.St → Hp → Prop} {rt : VK} (e : σ[i]? = some (some x)) (h : te σ H fun y H1 => ti x y H1 fun z H2 => nx (σ.set i (some z)) H2) : tAug i te ti ⟨nx, rt, bk, ct⟩ σ H := ⟨x, e, h⟩
end Fb

set_option maxHeartbeats 4000000
/-! steps that change the heap, over the state of a walk -/
namespace Fb
open PySem PySem.Spec PyProof.Rows L2
section
variable {K : PySem.W.Frag} {B : List Addr} {H0 H : Hp} {L : List (Addr × HO)} {P : List (Hp → Prop)} {Q : VK} {σ : L2.St} {te : TE} {tr : TA}
theorem sz_of {n : Nat} (h : n ≤ 100000) : n ≤ sizeLine := Nat.le_trans h (by decide)
theorem sz_lt {n : Nat} (h : n < 100000) : n < sizeLine := Nat.lt_of_lt_of_le h (by decide)
theorem st_newL (s : Stt B H0 L P H) {xs : List V} {R : Addr → Prop} (hz : xs.length ≤ 100000) (k : ∀ p, H p = none → Stt B H0 (L ++ [(p, .lst xs)]) P (upd H p (.lst xs)) → R p) : xs.length ≤ sizeLine ∧ ∀ p, H p = none → R p :=
  ⟨sz_of hz, fun p hp => k p hp (s.new hp trivial)⟩
theorem st_newT (K : PySem.W.Frag) (s : Stt B H0 L P H) {xs : List V} {R : Addr → Prop} (hz : xs.length ≤ 100000) (k : ∀ p, H p = none → Stt B H0 L (P ++ [fun H => TupAt K H p xs]) (upd H p (.tup xs)) → R p) : xs.length ≤ sizeLine ∧ ∀ p, H p = none → R p :=
  ⟨sz_of hz, fun p hp => k p hp (s.newT K hp)⟩
theorem st_new (s : Stt B H0 L P H) {o : HO} {N : Addr → Hp → Prop} (m : isMut o) (k : ∀ p H', H p = none → Same H H' → Stt B H0 (L ++ [(p, o)]) P H' → N p H') : ∀ p, H p = none → N p (upd H p o) :=
  fun p hp => k p _ hp (Same.new hp) (s.new hp m)
theorem st_cat (s : Stt B H0 L P H) {l b : Addr} {xs zs : List V} (h1 : H l = some (.lst xs)) (h2 : H b = some (.lst zs)) (hz : xs.length + zs.length ≤ 100000) (k : ∀ p H', H p = none → Same H H' → Stt B H0 (L ++ [(p, .lst (xs ++ zs))]) P H' → Q (.ref p) H') : rCat (.ref l) (.ref b) H Q :=
  ⟨l, b, xs, zs, rfl, rfl, h1, h2, sz_of hz, st_new s trivial k⟩
theorem st_rep (s : Stt B H0 L P H) {l : Addr} {x : V} {n : Int} (h1 : H l = some (.lst [x])) (hn : n ≤ 100000) (hm : -100000 ≤ n) (k : ∀ p H', H p = none → Same H H' → Stt B H0 (L ++ [(p, .lst (List.replicate n.toNat x))]) P H' → Q (.ref p) H') : rRep (.ref l) (.int n) H Q := by
  have e : (List.replicate n.toNat [x]).flatten = List.replicate n.toNat x := by
    generalize n.toNat = m
    induction m with
    | zero => rfl
    | succ m ih => rw [List.replicate_succ, List.flatten_cons, ih]; rfl
  refine ⟨l, n, [x], rfl, rfl, h1, by omega, by omega, sz_of (by simp; omega), ?_⟩
  rw [e]
  exact st_new s trivial k
theorem i_bm {T : String} {r : V → List V → Hp → VK → Prop} (h : te σ H fun x H1 => tyV K T x H1 ∧ tr σ H1 fun xs H2 => r x xs H2 Q) : tBM K T r te tr σ H Q := h
theorem i_bm0 {T : String} {r : V → List V → Hp → VK → Prop} (h : te σ H fun x H1 => tyV K T x H1 ∧ r x [] H1 Q) : tBM0 K T r te σ H Q := h
theorem i_tyL {a : Addr} {xs : List V} {N : Prop} (h : SqL K H a xs) (n : N) : tyV K "list" (.ref a) H ∧ N := ⟨.inl ⟨rfl, xs, h⟩, n⟩
theorem st_append (s : Stt B H0 L P H) (i : Nat) {l : Addr} {xs : List V} {y : V} (e : L[i]? = some (l, .lst xs)) (hz : xs.length < 100000) (k : ∀ H', Stt B H0 (L.set i (l, .lst (xs ++ [y]))) P H' → Q .non H') : rAppend (.ref l) [y] H Q :=
  ⟨l, xs, y, rfl, rfl, s.at i e, sz_lt hz, k _ (s.set i e trivial)⟩
theorem st_extend (s : Stt B H0 L P H) (i : Nat) {l b : Addr} {xs zs : List V} (e : L[i]? = some (l, .lst xs)) (h : H b = some (.lst zs)) (hz : xs.length + zs.length ≤ 100000) (k : ∀ H', Stt B H0 (L.set i (l, .lst (xs ++ zs))) P H' → Q .non H') : rExtend (.ref l) [.ref b] H Q :=
  ⟨l, b, xs, zs, rfl, rfl, s.at i e, h, sz_of hz, k _ (s.set i e trivial)⟩
theorem st_setL (s : Stt B H0 L P H) (i : Nat) {l : Addr} {xs : List V} {n : Int} {j : Nat} {v : V} {N : Hp → Prop} (e : L[i]? = some (l, .lst xs)) (hj : ixN xs.length n = some j) (k : ∀ H', Stt B H0 (L.set i (l, .lst (xs.set j v))) P H' → N H') : rSetL (.ref l) (.int n) v H N :=
  ⟨l, xs, n, j, rfl, rfl, s.at i e, hj, k _ (s.set i e trivial)⟩
theorem ixN_nat {n : Nat} {i : Int} (h0 : 0 ≤ i) (h : i < n) : ixN n i = some i.toNat := by
  unfold ixN
  rw [if_pos h0, if_pos h]
theorem atI_int {α : Type} {xs : List α} {i : Int} {v : α} (h0 : 0 ≤ i) (h : xs[i.toNat]? = some v) : atI xs i = some v := by
  have hl : i.toNat < xs.length := (List.getElem?_eq_some_iff.mp h).1
  unfold atI
  rw [ixN_nat h0 (by omega)]
  exact h
theorem sqBT {a : Addr} {xs : List V} (h : SqT K H a xs) : SqB false K H a xs := h
theorem sqBL {a : Addr} {xs : List V} (h : SqL K H a xs) : SqB true K H a xs := h
theorem i_all {a : Addr} {bs : List Bool} (h : SqL K H a (bs.map V.bl)) (q : Q (.bl (bs.all id)) H) : rAll K [.ref a] H Q := ⟨a, bs, rfl, h, q⟩
theorem i_any {a : Addr} {bs : List Bool} (h : SqL K H a (bs.map V.bl)) (q : Q (.bl (bs.any id)) H) : rAny K [.ref a] H Q := ⟨a, bs, rfl, h, q⟩
theorem i_sum {a : Addr} {ns : List Int} (h : SqL K H a (ns.map V.int)) (q : Q (.int ns.sum) H) : rSum K [.ref a] H Q := ⟨a, ns, rfl, h, q⟩
/-- one sign in a text -/
def rInC : R2 := fun x y H Q => ∃ (c : Nat) (z : Str), x = .str ⟨#[c]⟩ ∧ y = .str z ∧ Q (.bl (decide (c ∈ z.cps.toList))) H
theorem op_inC {X : Cx} : OpR X (compareOp .In) rInC := op_in_sign
theorem i_inC {c : Nat} {z : Str} (q : Q (.bl (decide (c ∈ z.cps.toList))) H) : rInC (.str ⟨#[c]⟩) (.str z) H Q := ⟨c, z, rfl, rfl, q⟩
theorem i_iS {R : It → Hp → Prop} (h : te σ H fun v H1 => ∃ x, v = .str x ∧ R (Its x) H1) : iStr te σ H R := h
/-- len(set(xs)), no int twice -/
theorem i_lenSet (h : te σ H fun x H1 => ∃ (l : Addr) (ns : List Int), x = .ref l ∧ SqL K H1 l (ns.map V.int) ∧ ns.Nodup ∧ ns.length ≤ 4000 ∧ Q (.int (ns.length : Nat)) H1) : RZ.tLenSetI K te σ H Q := h
/-- list(x), tuple(x) -/
def rList (K : PySem.W.Frag) : List V → Hp → VK → Prop := fun xs H Q => ∃ p ys, xs = [.ref p] ∧ (SqL K H p ys ∨ SqT K H p ys) ∧ ∀ l, H l = none → Q (.ref l) (upd H l (.lst ys))
theorem f_list {X : Cx} : CallR X (.type "list") (rList X.K) := call_list_of
def rTuple (K : PySem.W.Frag) : List V → Hp → VK → Prop := fun xs H Q => ∃ p ys, xs = [.ref p] ∧ ((SqL K H p ys ∧ ∀ l, H l = none → Q (.ref l) (upd H l (.tup ys))) ∨ (SqT K H p ys ∧ Q (.ref p) H))
theorem f_tuple {X : Cx} : CallR X (.type "tuple") (rTuple X.K) := call_tuple_of
theorem st_list (s : Stt B H0 L P H) {p : Addr} {ys : List V} (h : SqL K H p ys ∨ SqT K H p ys) (k : ∀ l H', H l = none → Stt B H0 (L ++ [(l, .lst ys)]) P H' → Q (.ref l) H') : rList K [.ref p] H Q := ⟨p, ys, rfl, h, fun l hl => k l _ hl (s.new hl trivial)⟩
theorem st_tupleL (s : Stt B H0 L P H) {p : Addr} {ys : List V} (h : SqL K H p ys) (k : ∀ l H', H l = none → Stt B H0 L (P ++ [fun H => TupAt K H l ys]) H' → Q (.ref l) H') : rTuple K [.ref p] H Q := ⟨p, ys, rfl, .inl ⟨h, fun l hl => k l _ hl (s.newT K hl)⟩⟩
/-! the rules whose reading bears K, with K told (within a comprehension's block no other way is open) -/
section
variable {X : Cx} {e : Expr} {es : List Expr} {pos : Pos} {tg : Expr} {f : Str}
theorem k_len (h : X.K = K) : CallR X (.builtin "len") (rLen K) := h ▸ f_len
theorem k_isi (h : X.K = K) : CallR X (.builtin "isinstance") (rIsB K) := h ▸ f_isi
theorem k_list (h : X.K = K) : CallR X (.type "list") (rList K) := h ▸ f_list
theorem k_tuple (h : X.K = K) : CallR X (.type "tuple") (rTuple K) := h ▸ f_tuple
theorem k_all (h : X.K = K) (hc : X.calm = true) : CallR X (.builtin "all") (rAll K) := h ▸ cr_all hc
theorem k_any (h : X.K = K) (hc : X.calm = true) : CallR X (.builtin "any") (rAny K) := h ▸ cr_any hc
theorem k_sum (h : X.K = K) (hc : X.calm = true) : CallR X (.builtin "sum") (rSum K) := h ▸ cr_sum hc
theorem k_ixL (h : X.K = K) : IxR X (rIxL K) := h ▸ ix_list
theorem k_ixT (h : X.K = K) : IxR X (rIxT K) := h ▸ ix_tup
theorem k_eqD (h : X.K = K) (hu : X.A.units + 64 < cLine) : OpR X (compareOp .Eq) (rEqD K) := h ▸ op_eqD hu
theorem k_neD (h : X.K = K) (hu : X.A.units + 64 < cLine) : OpR X (compareOp .NotEq) (rNeD K) := h ▸ op_neD hu
theorem k_in (h : X.K = K) : OpR X (compareOp .In) (rIn K false) := h ▸ op_in_seq
theorem k_nin (h : X.K = K) : OpR X (compareOp .NotIn) (rIn K true) := h ▸ op_notIn_seq
theorem k_fld (h : X.K = K) (he : PE X e te) (hb : attributeBase e f X.env (eval e X.env) = eval e X.env) : PE X (.Attribute e f pos) (tFld K te f) := h ▸ pe_fld he hb
theorem k_pl (h : X.K = K) (he : PE X e te) : PI X tg e (iList K te) := h ▸ pi_list he
theorem k_pt (h : X.K = K) (he : PE X e te) : PI X tg e (iTup K te) := h ▸ pi_tup he
theorem k_tg {n : Nat} {k : Nat} {t : TGs} (h : X.K = K) (hc : X.calm = true) (p : PGs X es t) (hn : (assignEach es X.env).length = n := by rfl) (hst : (assignEach es X.env).findIdx? (·.1) = none := by rfl) : PG X (.Tuple es k pos) (gTup K n t) := h ▸ pg_tup hc p hn hst
theorem k_enum {elts : List Expr} {kk : Nat} {tpos p : Pos} (h : X.K = K) (hg : Gl X "enumerate") (hm : X.mg "enumerate" = none) (ha : PA X [e] tr) (hs : starEach [e] X.env = [(false, eval e X.env)] := by rfl) : PI X (.Tuple elts kk tpos) (.Call (.Name "enumerate" p) [e] [] pos) (iEnumB K tr) := h ▸ pi_enumB hg hm ha hs
theorem k_zip {e2 : Expr} {elts : List Expr} {kk : Nat} {tpos p : Pos} (h : X.K = K) (hg : Gl X "zip") (hm : X.mg "zip" = none) (ha : PA X [e, e2] tr) (hs : starEach [e, e2] X.env = (false, eval e X.env) :: starEach [e2] X.env := by rfl) (hpl : (backTo pos (starEach [e2] X.env)).any (·.1) = false := by rfl) : PI X (.Tuple elts kk tpos) (.Call (.Name "zip" p) [e, e2] [] pos) (iZipB K tr) := h ▸ pi_zipB hg hm ha hs hpl
end
theorem atI_mem {α : Type} {xs : List α} {i : Int} (h0 : 0 ≤ i) (h : i < xs.length) : ∃ v, atI xs i = some v ∧ v ∈ xs := by
  have hl : i.toNat < xs.length := by omega
  exact ⟨xs[i.toNat], atI_int h0 (List.getElem?_eq_getElem hl), List.getElem_mem hl⟩
theorem i_gsub {to ti : TE} {t : TSet} {v : V} {N : L2.St → Hp → Prop} (h : to σ H fun o H1 => ti σ H1 fun i H2 => t o i v H2 fun H3 => N σ H3) : gSub to ti t v σ H N := h
theorem i_is {x : V} {a b : String} {k : Bool} (h : TyX K H x (.type a)) (e : kitB a b = some k) (q : Q (.bl k) H) : rIsB K [x, .ty b] H Q := ⟨x, a, b, k, rfl, h, e, q⟩
/-- isinstance(x, (S, T)), the tuple just made -/
def rIsB2 (K : PySem.W.Frag) : List V → Hp → VK → Prop := fun xs H Q => ∃ (x : V) (tp : Addr) (a b1 b2 : String) (k1 k2 : Bool), xs = [x, .ref tp] ∧ H tp = some (.tup [.ty b1, .ty b2]) ∧ TyX K H x (.type a) ∧ kitB a b1 = some k1 ∧ kitB a b2 = some k2 ∧ Q (.bl (k1 || k2)) H
theorem k_isi2 {X : Cx} (hk : X.K = K) : CallR X (.builtin "isinstance") (rIsB2 K) := fun pins s σ H xs us Q I r h => by
  obtain ⟨x, tp, a, b1, b2, k1, k2, e, ht, ty, e1, e2, q⟩ := h
  subst hk
  refine call_isiT pins s σ H xs us Q I r ⟨x, tp, _, .type a, [.type b1, .type b2], k1 || k2, e, ht, .cons (.ty b1) (.cons (.ty b2) .nil), ty, ?_, q⟩
  refine kitAny_cons (kit_ty e1) (fun h1 => ?_) (fun h1 => by rw [h1]; rfl)
  rw [h1]
  exact kitAny_cons (kit_ty e2) (fun h2 => by rw [h2]; exact kitAny_nil) (fun h2 => by rw [h2]; rfl)
theorem i_is2 {x : V} {tp : Addr} {a b1 b2 : String} {k1 k2 : Bool} (ht : H tp = some (.tup [.ty b1, .ty b2])) (h : TyX K H x (.type a)) (e1 : kitB a b1 = some k1) (e2 : kitB a b2 = some k2) (q : Q (.bl (k1 || k2)) H) : rIsB2 K [x, .ref tp] H Q := ⟨x, tp, a, b1, b2, k1, k2, rfl, ht, h, e1, e2, q⟩
/-- two dicts of the same keys, their values the same fixed data -/
def EqDD (K : PySem.W.Frag) (H : Hp) (x y : V) : Prop := ∃ a b ks ls, x = .ref a ∧ y = .ref b ∧ H a = some (.dK ks) ∧ H b = some (.dK ls) ∧ ks.length = ls.length ∧ ∀ p ∈ ks, ∃ u d, valV ls p.1 = some u ∧ Dt K H p.2 d ∧ Dt K H u d ∧ d.canLay0 = true ∧ d.depth ≤ 8 ∧ PyData.eqv d d = true
theorem EqDD.same {H' : Hp} {x y : V} (e : Same H H') (h : EqDD K H x y) : EqDD K H' x y := by
  obtain ⟨a, b, ks, ls, e1, e2, h1, h2, hl, hp⟩ := h
  exact ⟨a, b, ks, ls, e1, e2, e _ _ h1, e _ _ h2, hl, fun p hm => let ⟨u, d, g1, g2, g3, g4⟩ := hp p hm; ⟨u, d, g1, Dt.keep (TK.same e) _ _ g2, Dt.keep (TK.same e) _ _ g3, g4⟩⟩
def rEqDD (K : PySem.W.Frag) : R2 := fun x y H Q => EqDD K H x y ∧ Q (.bl true) H
theorem op_eqDD {X : Cx} (hu : X.A.units + 64 < cLine) : OpR X (compareOp .Eq) (rEqDD X.K) := by
  intro pins s σ H x y v u Q I rx ry h
  obtain ⟨⟨a, b, ks, ls, rfl, rfl, ha, hb, hl, hp⟩, q⟩ := h
  cases (show v = Value.ref a from rx)
  cases (show u = Value.ref b from ry)
  obtain ⟨_, ya, va, ra, da⟩ := (show ObjOk X.prog X.w H s.heap a (.dK ks) from I.hok a _ ha)
  obtain ⟨_, yb, vb, rb, db⟩ := (show ObjOk X.prog X.w H s.heap b (.dK ls) from I.hok b _ hb)
  refine PySem.W.rcP_dicts (knd := mixKind X.prog X.w) (r := true) ya yb da db (A := X.A) (by omega) (fun _ => hits_run (F := fun x y => ∃ d, Dt X.K H x d ∧ Dt X.K H y d ∧ d.canLay0 = true ∧ d.depth ≤ 8 ∧ PyData.eqv d d = true) (fun x y v u f rx ry => ?_) rb ra fun p hm => ?_) _ _ ?_
  · obtain ⟨d, d1, d2, sd, dd, ed⟩ := f
    obtain ⟨as, r1⟩ := Dp.reads I d x v (Dt.dp _ _ d1) rx
    obtain ⟨bs, r2⟩ := Dp.reads I d y u (Dt.dp _ _ d2) ry
    have := SeqAt.eqAt_reads d d X.A.in1 s v u as bs r1 r2 sd sd (by
      rw [Nat.min_self]
      show X.A.units + 1 + d.depth < cLine
      omega)
    rw [ed] at this
    exact this.eqP
  · obtain ⟨u, d, g1, g2⟩ := hp p hm
    exact ⟨u, g1, d, g2⟩
  · have e : va.length = vb.length := by rw [← ra.length, ← rb.length]; exact hl
    rw [show (va.length == vb.length && true) = true from by rw [e]; simp]
    exact ⟨.bl true, H, I, rfl, q⟩
/-- == of scalars, or of equal data with dicts -/
def rEqU (K : PySem.W.Frag) : R2 := fun x y H Q => rEq x y H Q ∨ (rEqV K x y H Q ∨ rEqDD K x y H Q)
theorem k_eqU {X : Cx} (hk : X.K = K) (hu : X.A.units + 64 < cLine) : OpR X (compareOp .Eq) (rEqU K) := hk ▸ op_eq.or ((op_eqV hu).or (op_eqDD hu))
theorem k_ix {X : Cx} (hk : X.K = K) : IxR X (rIx K) := hk ▸ ix_seq
theorem i_ixB {kd : Bool} {a : Addr} {xs : List V} {i : Int} {v : V} (h : SqB kd K H a xs) (e : atI xs i = some v) (q : Q v H) : rIx K (.ref a) (.int i) H Q := by
  cases kd
  · exact .inr (.inl ⟨a, xs, i, v, rfl, rfl, h, e, q⟩)
  · exact .inl ⟨a, xs, i, v, rfl, rfl, h, e, q⟩
theorem i_lenB {kd : Bool} {a : Addr} {xs : List V} (h : SqB kd K H a xs) (q : Q (.int (xs.length : Int)) H) : rLen K [.ref a] H Q := by
  cases kd
  · exact i_lenT h q
  · exact i_lenL h q
theorem ty_B {kd : Bool} {a : Addr} {xs : List V} (h : SqB kd K H a xs) : TyX K H (.ref a) (.type (if kd then "list" else "tuple")) := by
  cases kd
  · exact ty_tup h
  · exact ty_lst h
theorem SqB.seq {kd : Bool} {H' : Hp} {a : Addr} {xs : List V} (e : Same H H') (h : SqB kd K H a xs) : SqB kd K H' a xs := by
  cases kd
  · rcases (show SqT K H a xs from h) with (h | ⟨o, h⟩) | h
    · exact SqT.of (e _ _ h)
    · exact .inl (.inr ⟨o, e _ _ h⟩)
    · exact .inr h
  · exact e.seq h
/-- sorted(d), a dict of fewer than 64 text keys -/
def rSortD : List V → Hp → VK → Prop := fun xs H Q => ∃ (a : Addr) (kvs : List (Key × V)) (ks : List Str), xs = [.ref a] ∧ Rd H a (.dK kvs) ∧ kvs.map (·.1) = ks.map Sum.inr ∧ ks.length < 64 ∧
    ∀ ys p, ys.Perm ks → sortedS ys = true → H p = none → Q (.ref p) (upd H p (.lst (ys.map V.str)))
theorem f_sortD {X : Cx} (hc : X.calm = true) : CallR X (.builtin "sorted") rSortD := call_sortedD hc
theorem i_yes {N : Bool → Hp → Prop} (h : N true H) : tYes σ H N := h
theorem i_par {i j : Nat} {ta : TA} {nx bk ct : L2.St → Hp → Prop} {rt : VK} (h : ta σ H fun vs H1 => ∃ v w, vs = [v, w] ∧ nx ((σ.set i (some v)).set j (some w)) H1) : tPar i j ta ⟨nx, rt, bk, ct⟩ σ H := h
theorem i_par3 {i j l : Nat} {ta : TA} {nx bk ct : L2.St → Hp → Prop} {rt : VK} (h : ta σ H fun vs H1 => ∃ u v w, vs = [u, v, w] ∧ nx (((σ.set i (some u)).set j (some v)).set l (some w)) H1) : tPar3 i j l ta ⟨nx, rt, bk, ct⟩ σ H := h
theorem i_tupRg {te : L2.St → Hp → (Int → Int → Hp → Prop) → Prop} (h : te σ H fun a b H1 => RgOk a b ∧ ∀ q, H1 q = none → Q (.ref q) (upd H1 q (.tup (rgV a b)))) : tTupRg te σ H Q := h
/-! dicts with int and text keys -/
theorem i_dget {td ty : TE} (h : td σ H fun x H1 => ty σ H1 fun y H2 => ∃ a v, x = .ref a ∧ DGet H2 a y (some v) ∧ Q v H2) : tDGet td ty σ H Q := h
theorem i_din {td ty : TE} (h : ty σ H fun y H1 => td σ H1 fun x H2 => ∃ a o, x = .ref a ∧ DGet H2 a y o ∧ Q (.bl o.isSome) H2) : tDIn ty td σ H Q := h
theorem i_dnotin {td ty : TE} (h : ty σ H fun y H1 => td σ H1 fun x H2 => ∃ a o, x = .ref a ∧ DGet H2 a y o ∧ Q (.bl (!o.isSome)) H2) : tDNotIn ty td σ H Q := h
theorem i_dget2 {td ty tx : TE} (h : td σ H fun x H1 => ∃ a, x = .ref a ∧ IsD H1 a ∧ ty σ H1 fun y H2 => tx σ H2 fun z H3 => ∃ o, DGet H3 a y o ∧ Q (o.getD z) H3) : tDGet2 td ty tx σ H Q := h
theorem i_dput {td ty tv : TE} {nx bk ct : L2.St → Hp → Prop} {rt : VK} (h : tv σ H fun v H1 => td σ H1 fun x H2 => ty σ H2 fun y H3 => ∃ a H4, x = .ref a ∧ DPut H3 a y v H4 ∧ nx σ H4) : sDPut td ty tv ⟨nx, rt, bk, ct⟩ σ H := h
theorem st_dnew (s : Stt B H0 L P H) (k : ∀ p H', H p = none → Same H H' → Stt B H0 (L ++ [(p, .dK [])]) P H' → Q (.ref p) H') : tDNewK σ H Q := st_new s trivial k
theorem st_dput (s : Stt B H0 L P H) (i : Nat) {l : Addr} {kvs : List (Key × V)} {ky : Key} {v : V} {N : Hp → Prop} (e : L[i]? = some (l, .dK kvs)) (hz : kvs.length < 100000) (k : ∀ H', Stt B H0 (L.set i (l, .dK (putK kvs ky v))) P H' → N H') : ∃ a H4, V.ref l = .ref a ∧ DPut H a (kV ky) v H4 ∧ N H4 :=
  ⟨l, _, rfl, DPut.k (s.at i e) (sz_lt hz), k _ (s.set i e trivial)⟩
theorem st_dget {l : Addr} {kvs : List (Key × V)} {ky : Key} {N : Option V → Prop} (h : H l = some (.dK kvs)) (k : N (valV kvs ky)) : ∃ o, DGet H l (kV ky) o ∧ N o := ⟨_, DGet.k h, k⟩
end
end Fb

set_option maxHeartbeats 4000000
/-! d.update(a list of pairs); further steps over a Stt -/
namespace Fb
open PySem PySem.Spec PyProof.Rows L2
/-- d.update([(k, v), ..]) -/
def rUpdP (K : PySem.W.Frag) : V → List V → Hp → VK → Prop := fun x xs H Q => ∃ (d l : Addr) (kvs : List (Key × V)) (ps : List (Addr × (Key × V))), x = .ref d ∧ xs = [.ref l] ∧ H d = some (.dK kvs) ∧ SqL K H l (ps.map fun p => V.ref p.1) ∧
  (∀ p ∈ ps, SqT K H p.1 [kV p.2.1, p.2.2]) ∧ kvs.length + ps.length ≤ sizeLine ∧ Q .non (upd H d (.dK (mergeK kvs (ps.map (·.2)))))
section
variable {X : Cx}
theorem raw_pairs {K : PySem.W.Frag} {pins : List (Addr × Obj)} {σ : L2.St} {H : Hp} {s : Shared} (I : Inv X pins σ H s) : ∀ {ps : List (Addr × (Key × V))}, (∀ p ∈ ps, SqT X.K H p.1 [kV p.2.1, p.2.2]) →
    ∃ qs : List (Value × Value), Paired (fun p q => PySem.PairAt s.heap p.1 q.1 q.2 ∧ RelV (kV p.2.1) q.1 ∧ RelV p.2.2 q.2) ps qs
  | [], _ => ⟨[], .nil⟩
  | p :: ps, h => by
    obtain ⟨qs, hq⟩ := raw_pairs (K := K) I (ps := ps) fun p' hp' => h p' (List.mem_cons_of_mem _ hp')
    obtain ⟨its, r, hT, _⟩ := I.tuple (h p List.mem_cons_self)
    cases r with
    | @cons _ u1 _ us r1 r =>
      cases r with
      | @cons _ u2 _ us r2 r =>
        cases r
        exact ⟨(u1, u2) :: qs, .cons ⟨.inl hT, r1, r2⟩ hq⟩
theorem Paired.at' {α β : Type} {R : α → β → Prop} : ∀ {xs : List α} {ys : List β} {i : Nat} {y : β}, Paired R xs ys → ys[i]? = some y → ∃ x, xs[i]? = some x ∧ R x y
  | _, _, _, _, .nil, h => by simp at h
  | _, _, 0, _, .cons r _, h => ⟨_, rfl, by simp at h; subst h; exact r⟩
  | _, _, i + 1, _, .cons _ t, h => Paired.at' (i := i) t (by simpa using h)
theorem mt_updP (hc : X.calm = true) : MtR X "dict.update" (rUpdP X.K) := by
  intro pins s σ H x xs v us Q I rx rxs h
  obtain ⟨d, l, kvs, ps, rfl, rfl, hd, hl, hps, hz, q⟩ := h
  obtain rfl : v = Value.ref d := rx
  cases rxs with
  | @cons _ u _ us rl rr =>
  cases rr
  obtain rfl : u = Value.ref l := rl
  obtain ⟨z, hdm, vs, rel, dd⟩ := dk_of I.hok hd
  obtain ⟨its, ri, pl, hlz⟩ := I.list hl
  obtain ⟨qs, hqs⟩ := raw_pairs (K := X.K) I hps
  have hlen : ps.length = qs.length := Paired.length hqs
  have hil : ps.length = its.length := by have := ri.length; simpa using this
  let Ts : Nat → Addr := fun j => (ps[j]?.map (·.1)).getD 0
  have hitems : PySem.PairItems s.heap its.toArray Ts qs := by
    refine ⟨by rw [List.size_toArray]; omega, fun j k v hj => ?_⟩
    obtain ⟨p, hp, h1, h2, h3⟩ := Paired.at' hqs hj
    have e : Ts j = p.1 := by simp only [Ts, hp, Option.map_some, Option.getD_some]
    rw [e]
    refine ⟨?_, h1⟩
    obtain ⟨w, ew, rw'⟩ := ri.get (i := j) (x := V.ref p.1) (by rw [List.getElem?_map, hp]; rfl)
    obtain rfl : w = Value.ref p.1 := rw'
    simpa using ew
  have key : ∀ {ps : List (Addr × (Key × V))} {qs : List (Value × Value)}, Paired (fun p q => PySem.PairAt s.heap p.1 q.1 q.2 ∧ RelV (kV p.2.1) q.1 ∧ RelV p.2.2 q.2) ps qs →
      ∃ rs : List (Key × Value), KV (ps.map (·.2)) rs ∧ rs.length = qs.length ∧ ∀ (i : Nat) (k v : Value), qs[i]? = some (k, v) → ∃ k', rs[i]? = some (k', v) ∧ (mixKind X.prog X.w).is k' k = true := by
    intro ps qs h
    induction h with
    | nil => exact ⟨[], .nil, rfl, fun i k v h => by simp at h⟩
    | @cons p q ps qs h t ih =>
      obtain ⟨rs, h1, h2, h3⟩ := ih
      refine ⟨(p.2.1, q.2) :: rs, .cons ⟨rfl, h.2.2⟩ h1, by simp [h2], fun i k v hi => ?_⟩
      cases i with
      | zero =>
        simp at hi
        subst hi
        exact ⟨_, rfl, kV_is h.2.1⟩
      | succ i =>
        obtain ⟨k', e1, e2⟩ := h3 i k v (by simpa using hi)
        exact ⟨k', by simpa using e1, e2⟩
  obtain ⟨rs, hkv, hrl, hrs⟩ := key hqs
  have hne : d ∉ l :: (List.range qs.length).map Ts := by
    obtain ⟨od, es, ep, hod, hex, _⟩ := dd
    intro hm
    rcases List.mem_cons.mp hm with e | hm
    · subst e
      obtain ⟨o, n, ho, hcl, _⟩ := pl
      rw [hod] at ho
      cases ho
      have := hex.1
      rw [hcl] at this
      exact absurd this (by decide)
    · obtain ⟨j, hj, e⟩ := List.mem_map.mp hm
      obtain ⟨⟨k, v⟩, hjq⟩ : ∃ q, qs[j]? = some q := ⟨_, List.getElem?_eq_getElem (List.mem_range.mp hj)⟩
      obtain ⟨_, hpa⟩ := hitems.2 j k v hjq
      rw [e] at hpa
      obtain ⟨o, ho, hcl⟩ := hpa.there
      rw [hod] at ho
      cases ho
      have := hex.1
      rcases hcl with hcl | hcl <;> rw [hcl] at this <;> exact absurd this (by decide)
  refine PySem.call_update_pairs (knd := mixKind X.prog X.w) (acc := vs) (kvs := rs) (PySem.PairArg.list l its.toArray Ts qs) (I.ok.hd hc) ⟨pl, hitems⟩ hne ⟨hrl, hrs⟩ dd (by rw [← rel.length, ← hlen]; exact hz) fun h' tk dd' hk => ?_
  refine ⟨.non, _, ?_, rfl, q⟩
  have he : ∃ q, h'.get? d = some q := let ⟨q, _, _, hq, _⟩ := dd'; ⟨q, hq⟩
  have hlm := length_mergeK (ps.map (·.2)) kvs
  rw [List.length_map] at hlm
  exact I.write (x := d) (e := d) (by rw [hd]; exact True.intro) (.inl rfl) (fun b q hb z => hk b q hb (List.not_mem_nil) z) he (dk_new (Nat.le_trans hlm hz) hdm (hkv.merge rel) dd')
theorem k_updP {K : PySem.W.Frag} (h : X.K = K) (hc : X.calm = true) : MtR X "dict.update" (rUpdP K) := h ▸ mt_updP hc
/-- sorted(d), a dict of fewer than 64 int keys -/
def rSortDI : List V → Hp → VK → Prop := fun xs H Q => ∃ (a : Addr) (kvs : List (Key × V)) (ks : List Int), xs = [.ref a] ∧ Rd H a (.dK kvs) ∧ kvs.map (·.1) = ks.map Sum.inl ∧ ks.length < 64 ∧
    ∀ (ys : List Int) (p : Addr), ys.Perm ks → ys.Pairwise (· ≤ ·) → H p = none → Q (.ref p) (upd H p (.lst (ys.map V.int)))
theorem f_sortDI (hc : X.calm = true) : CallR X (.builtin "sorted") rSortDI := call_sortedDI hc
theorem i_tyD {K : PySem.W.Frag} {H : Hp} {d : Addr} {kvs : List (Key × V)} {N : Prop} (h : H d = some (.dK kvs)) (n : N) : tyV K "dict" (.ref d) H ∧ N := ⟨.inr (.inr (.inl ⟨rfl, .inl ⟨kvs, h⟩⟩)), n⟩
theorem i_tp1 {tk tv : TE} {σ : L2.St} {H : Hp} {Q : List (V × V) → Hp → Prop} (h : tk σ H fun x H1 => tv σ H1 fun y H2 => Q [(x, y)] H2) : tPairs [(tk, tv)] σ H Q := h
/-- int(x) of an int or a bool -/
def rInt2 : List V → Hp → VK → Prop := fun xs H Q => (∃ i, xs = [.int i] ∧ Q (.int i) H) ∨ ∃ k, xs = [.bl k] ∧ Q (.int (if k then 1 else 0)) H
theorem f_intB : CallR X (.type "int") rInt2 := call_int1
theorem i_intB {H : Hp} {Q : VK} {k : Bool} (q : Q (.int (if k then 1 else 0)) H) : rInt2 [.bl k] H Q := .inr ⟨k, rfl, q⟩
theorem i_iR3 {tr : TA} {σ : L2.St} {H : Hp} {R : It → Hp → Prop} (h : tr σ H fun vs H1 => ∃ (i j c : Int) (n : Nat), vs = [.int i, .int j, .int c] ∧ RgC i j c n ∧ R (Itc i c n) H1) : iRng3 tr σ H R := h
theorem i_disp {trs : List (TE × TE)} {σ : L2.St} {H : Hp} {Q : VK} (h : ∀ p, H p = none → tPairs trs σ (upd H p (.dK [])) fun ps H2 => H2 p = some (.dK []) ∧ ∃ kvs : List (Key × V), ps = kvs.map (fun kv => (kV kv.1, kv.2)) ∧ kvs.length ≤ 15 ∧ Q (.ref p) (upd H2 p (.dK (mergeK [] kvs)))) : tDisp trs σ H Q := h
theorem i_dc {wi : TI} {g : TG} {tt : TT} {tk tv : TE} {vs : List Nat} {σ : L2.St} {H : Hp} {Q : VK} (h : wi σ H fun J H1 => ∀ D, H1 D = none → ∃ W : Nat → Nat → Hp → Prop, (∃ m, W 0 m (upd H1 D (.dK []))) ∧ ∀ i m H, W i m H →
  (J.stop i H ∧ Q (.ref D) H) ∨ (J.go i H ∧ ∃ Nx : Hp → Prop, (∀ H', Nx H' → ∃ m', m' < m ∧ W (i + 1) m' H') ∧ ∀ x H', J.yld i H x H' → g x (wipe σ vs) H' fun σ2 H2 => wipe σ2 vs = wipe σ vs ∧ tt σ2 H2 fun b H3 =>
    if b = true then tk σ2 H3 fun y H4 => tv σ2 H4 fun z H5 => ∃ kvs k, y = kV k ∧ H5 D = some (.dK kvs) ∧ kvs.length < sizeLine ∧ Nx (upd H5 D (.dK (putK kvs k z))) else Nx H3)) : tDc wi g tt tk tv vs σ H Q := h
/-- list(d.values()) -/
def tListVals (te : TE) : TE := fun σ H Q => te σ H fun x H1 => ∃ (d : Addr) (kvs : List (Key × V)), x = .ref d ∧ H1 d = some (.dK kvs) ∧ ∀ p, H1 p = none → Q (.ref p) (upd H1 p (.lst (kvs.map (·.2))))
theorem i_listVals {te : TE} {σ : L2.St} {H : Hp} {Q : VK} (h : te σ H fun x H1 => ∃ (d : Addr) (kvs : List (Key × V)), x = .ref d ∧ H1 d = some (.dK kvs) ∧ ∀ p, H1 p = none → Q (.ref p) (upd H1 p (.lst (kvs.map (·.2))))) : tListVals te σ H Q := h
theorem pe_listVals {e : Expr} {te : TE} {p apos cpos pos : Pos} (hc : X.calm = true) (he : PE X e te) (hg : Gl X "list") (hm : X.mg "list" = none) (hv : bootBuiltins "list" = some (.type "list")) (hbase : attributeBase e "values" X.env (eval e X.env) = eval e X.env := by rfl) (hline : (apos.endLine == cpos.line) = true := by rfl)
    (hs : starEach [.Call (.Attribute e "values" apos) [] [] cpos] X.env = (false, eval (.Call (.Attribute e "values" apos) [] [] cpos) X.env) :: starEach [] X.env := by rfl) :
    PE X (.Call (.Name "list" p) [.Call (.Attribute e "values" apos) [] [] cpos] [] pos) (tListVals te) := by
  refine ⟨fun pins s σ H Q I hq => ?_⟩
  refine wpAny_Call_Name_kw (ld_blt I hg hm hv ?_)
  refine PyProof.Rows.callWith_type1 ?_ hs rfl
  rw [hs]
  show wpAny _ _ (spliced ((false, eval (.Call (.Attribute e "values" apos) [] [] cpos) X.env) :: backTo pos (starEach [] X.env))) _ _ s
  refine Calls.spliced_cons ?_
  refine wpAny_Call_method (T := "dict") (id := "dict.values") hbase rfl hline F.plainAttrs_dict F.slot_dict_values F.type_dict_values (thn (he.run pins s σ H _ I hq) fun u s1 ⟨x, H1, I1, rx, d, kvs, ex, hd, q⟩ => ?_)
  subst ex
  obtain rfl : u = Value.ref d := rx
  obtain ⟨hz, hs0, vs, kv, hdo⟩ := I1.hok d _ hd
  obtain ⟨ep, hat⟩ := hdo.dictAt
  have lk : kvs.length = vs.length := Paired.length kv
  have I2 : Inv X pins σ H1 { s1 with heap := s1.heap.push { cls := .type "dict_values", data := .fields #[.ref d] } } := I1.kept (t' := s1.toks) fun b ob q => Heap.get?_push_of_some _ q
  refine ⟨hdo.typeIs, hdo.mapOf.noDict, ?_⟩
  show wpAny _ _ (callWith cpos (.builtin "dict.values") [.ref d] [] []) _ X.xe s1
  refine method_meetsIn F.slot_dict_values F.entry_dict_values rfl (PySem.evalArgs_none ⟨rfl, hdo.typeIs, F.args_dict_values_1 _, _, meets_dict_values (mixKind X.prog X.w) d hs0, ⟨vs, hdo⟩, ?_⟩)
  refine Calls.spliced_nil ?_
  refine PySem.W.kdl_call (PySem.W.kdl_values (knd := mixKind X.prog X.w) (kvs := vs) (ep := ep)) (I1.ok.hd hc) ⟨⟨_, Heap.get?_push_size _ rfl, rfl, rfl⟩, hat.push _⟩ (by rw [← lk]; exact hz) fun h' tk acc' c' hkeep hS hacc => ?_
  refine ⟨.ref _, upd H1 _ (.lst (kvs.map (·.2))), I2.laid hkeep (Nat.le_refl _) (show ObjOk X.prog X.w _ _ _ (.lst (kvs.map (·.2))) from ⟨?_, acc'.toList, c', ?_, ?_⟩), rfl, q _ (I2.hok.fresh (Nat.le_refl _))⟩
  · rw [List.length_map]; exact hz
  · have el : acc'.toList.length = acc'.size := by simp
    refine vals_of_at (by rw [List.length_map, el, hacc.1, lk]) fun j x w h1 h2 => ?_
    obtain ⟨k, hky⟩ := hacc.2 j w (by rw [← Array.getElem?_toList]; exact h2)
    rw [List.getElem?_map] at h1
    cases e : kvs[j]? with
    | none => rw [e] at h1; cases h1
    | some p =>
      rw [e] at h1
      obtain ⟨y, hy, r1, r2⟩ := LiI.paired_get kv e
      rw [hky] at hy
      cases hy
      cases h1
      exact r2
  · rw [Array.toArray_toList]; exact hS
/-- a dict comprehension over what walks -/
theorem dc_go {J : It} {n : Nat} {G : Hp → Prop} {Y : Nat → Hp → V → Hp → Prop} {g : TG} {tt : TT} {tk tv : TE} {vs : List Nat} {σ : L2.St} {H1 : Hp} {D : Addr} {Qd : Hp → Prop} (w : Walk J n G Y) (Pv : Nat → Hp → Prop) (h0 : Pv 0 (upd H1 D (.dK []))) (hG : ∀ i H, i ≤ n → Pv i H → G H)
    (hs : ∀ i x H H', i < n → Pv i H → Y i H x H' → g x (wipe σ vs) H' fun σ2 H2 => wipe σ2 vs = wipe σ vs ∧ tt σ2 H2 fun b H3 =>
      if b = true then tk σ2 H3 fun y H4 => tv σ2 H4 fun z H5 => ∃ kvs k, y = kV k ∧ H5 D = some (.dK kvs) ∧ kvs.length < sizeLine ∧ Pv (i + 1) (upd H5 D (.dK (putK kvs k z))) else Pv (i + 1) H3) (hd : ∀ H, Pv n H → Qd H) :
    ∃ W : Nat → Nat → Hp → Prop, (∃ m, W 0 m (upd H1 D (.dK []))) ∧ ∀ i m H, W i m H →
      (J.stop i H ∧ Qd H) ∨ (J.go i H ∧ ∃ Nx : Hp → Prop, (∀ H', Nx H' → ∃ m', m' < m ∧ W (i + 1) m' H') ∧ ∀ x H', J.yld i H x H' → g x (wipe σ vs) H' fun σ2 H2 => wipe σ2 vs = wipe σ vs ∧ tt σ2 H2 fun b H3 =>
        if b = true then tk σ2 H3 fun y H4 => tv σ2 H4 fun z H5 => ∃ kvs k, y = kV k ∧ H5 D = some (.dK kvs) ∧ kvs.length < sizeLine ∧ Nx (upd H5 D (.dK (putK kvs k z))) else Nx H3) := by
  refine ⟨fun i m H => m = n - i ∧ i ≤ n ∧ Pv i H, ⟨n, by simp, Nat.zero_le _, h0⟩, ?_⟩
  rintro i m H ⟨rfl, hi, p⟩
  have q := hG i H hi p
  by_cases hlt : i < n
  · exact .inr ⟨w.goes i H hlt q, Pv (i + 1), fun H' p' => ⟨n - (i + 1), by omega, rfl, hlt, p'⟩, fun x H' y => hs i x H H' hlt p (w.yields i H x H' hlt q y)⟩
  · have e : i = n := by omega
    subst e
    exact .inl ⟨w.stops H q, hd H p⟩
theorem i_lock {t : TS} {nx bk ct : L2.St → Hp → Prop} {rt : VK} {σ : L2.St} {H : Hp} (h : ∃ d u, H d = some u ∧ Mut (some u) ∧ ∀ od, t ⟨fun σ' H' => H' d = some (.frz od u) ∧ nx σ' (upd H' d u), fun v H' => H' d = some (.frz od u) ∧ rt v (upd H' d u), fun σ' H' => H' d = some (.frz od u) ∧ bk σ' (upd H' d u), fun σ' H' => H' d = some (.frz od u) ∧ ct σ' (upd H' d u)⟩ σ (upd H d (.frz od u))) : tLock t ⟨nx, rt, bk, ct⟩ σ H := h
theorem i_iK {td : TE} {σ : L2.St} {H : Hp} {R : It → Hp → Prop} (h : td σ H fun x H1 => ∃ d o, x = .ref d ∧ ((∃ kvs, H1 d = some (.frz o (.dK kvs)) ∧ R (Itk d o kvs) H1) ∨ ∃ kvs, H1 d = some (.frz o (.dT kvs)) ∧ R (Itkt d o kvs) H1)) : iKeys td σ H R := h
/-! ### the keys of a dict that is used as a set -/
structure KSet (kvs : List (Key × V)) (S : Key → Prop) : Prop where
  nd : (kvs.map (·.1)).Nodup
  mem : ∀ k, k ∈ kvs.map (·.1) ↔ S k
theorem KSet.nil : KSet [] fun _ => False := ⟨List.nodup_nil, fun k => ⟨fun h => (List.not_mem_nil h), fun h => h.elim⟩⟩
theorem any_key {kvs : List (Key × V)} {k : Key} : (kvs.any fun kv => decide (kv.1 = k)) = true ↔ k ∈ kvs.map (·.1) := by
  rw [List.any_eq_true, List.mem_map]
  constructor
  · rintro ⟨p, hp, h⟩
    exact ⟨p, hp, of_decide_eq_true h⟩
  · rintro ⟨p, hp, h⟩
    exact ⟨p, hp, decide_eq_true h⟩
theorem putK_keys {kvs : List (Key × V)} {k : Key} {v : V} : (k ∈ kvs.map (·.1) ∧ (putK kvs k v).map (·.1) = kvs.map (·.1)) ∨ (k ∉ kvs.map (·.1) ∧ (putK kvs k v).map (·.1) = kvs.map (·.1) ++ [k]) := by
  unfold putK
  by_cases h : (kvs.any fun kv => decide (kv.1 = k)) = true
  · left
    refine ⟨any_key.mp h, ?_⟩
    rw [if_pos h, List.map_map]
    refine List.map_congr_left fun p _ => ?_
    show (if p.1 = k then (p.1, v) else p).1 = p.1
    split <;> rfl
  · right
    refine ⟨fun z => h (any_key.mpr z), ?_⟩
    rw [if_neg h, List.map_append]
    rfl
theorem KSet.put {kvs : List (Key × V)} {S : Key → Prop} (h : KSet kvs S) (k : Key) (v : V) : KSet (putK kvs k v) fun j => S j ∨ j = k := by
  rcases putK_keys (kvs := kvs) (k := k) (v := v) with ⟨hk, e⟩ | ⟨hk, e⟩
  · refine ⟨by rw [e]; exact h.nd, fun j => ?_⟩
    rw [e, h.mem]
    constructor
    · exact .inl
    · rintro (h' | h')
      · exact h'
      · rw [h']; exact (h.mem k).mp hk
  · refine ⟨?_, fun j => by rw [e, List.mem_append, h.mem, List.mem_singleton]⟩
    rw [e]
    exact List.nodup_append.mpr ⟨h.nd, by simp, fun a ha b hb e => hk (by
      have : b = k := by simpa using hb
      rw [← this, ← e]
      exact ha)⟩
theorem KSet.merge {v : V} : ∀ {zs : List Key} {kvs : List (Key × V)} {S : Key → Prop}, KSet kvs S → KSet (mergeK kvs (zs.map fun k => (k, v))) fun j => S j ∨ j ∈ zs
  | [], kvs, S, h => ⟨h.nd, fun k => (h.mem k).trans (by simp)⟩
  | z :: zs, kvs, S, h => by
    have := (h.put z v).merge (zs := zs) (v := v)
    refine ⟨this.nd, fun k => ?_⟩
    rw [List.map_cons]
    refine (this.mem k).trans ?_
    rw [List.mem_cons, or_assoc]
theorem KSet.some {kvs : List (Key × V)} {S : Key → Prop} (h : KSet kvs S) (k : Key) : (valV kvs k).isSome = true ↔ S k := by
  rw [← h.mem]
  clear h
  induction kvs with
  | nil => simp [valV]
  | cons p kvs ih =>
    by_cases e : p.1 = k
    · rw [valV_pos e]
      simp [e]
    · rw [valV_neg e, ih, List.map_cons, List.mem_cons]
      constructor
      · exact .inr
      · rintro (h | h)
        · exact absurd h.symm e
        · exact h
/-- int keys only -/
theorem KSet.ints {kvs : List (Key × V)} {S : Key → Prop} (h : KSet kvs S) (hS : ∀ k, S k → ∃ i, k = Sum.inl i) : ∃ ks : List Int, kvs.map (·.1) = ks.map Sum.inl ∧ ks.Nodup ∧ ∀ i : Int, i ∈ ks ↔ S (.inl i) := by
  have : ∀ l : List Key, (∀ k ∈ l, ∃ i, k = Sum.inl i) → ∃ ks : List Int, l = ks.map Sum.inl := fun l => by
    induction l with
    | nil => exact fun _ => ⟨[], rfl⟩
    | cons k l ih =>
      intro h
      obtain ⟨ks, e⟩ := ih fun k hk => h k (by simp [hk])
      obtain ⟨i, rfl⟩ := h k (by simp)
      exact ⟨i :: ks, by rw [e]; rfl⟩
  obtain ⟨ks, e⟩ := this _ fun k hk => hS k ((h.mem k).mp hk)
  have nd := h.nd
  rw [e] at nd
  refine ⟨ks, e, List.Pairwise.of_map (S := fun a b => a ≠ b) _ (fun a b n z => n (by rw [z])) nd, fun i => ?_⟩
  rw [← h.mem, e, List.mem_map]
  exact ⟨fun h => ⟨i, h, rfl⟩, fun ⟨j, hj, e⟩ => by cases e; exact hj⟩
theorem KSet.strs {kvs : List (Key × V)} {S : Key → Prop} (h : KSet kvs S) (hS : ∀ k, S k → ∃ i, k = Sum.inr i) : ∃ ks : List Str, kvs.map (·.1) = ks.map Sum.inr ∧ ks.Nodup ∧ ∀ i : Str, i ∈ ks ↔ S (.inr i) := by
  have : ∀ l : List Key, (∀ k ∈ l, ∃ i, k = Sum.inr i) → ∃ ks : List Str, l = ks.map Sum.inr := fun l => by
    induction l with
    | nil => exact fun _ => ⟨[], rfl⟩
    | cons k l ih =>
      intro h
      obtain ⟨ks, e⟩ := ih fun k hk => h k (by simp [hk])
      obtain ⟨i, rfl⟩ := h k (by simp)
      exact ⟨i :: ks, by rw [e]; rfl⟩
  obtain ⟨ks, e⟩ := this _ fun k hk => hS k ((h.mem k).mp hk)
  have nd := h.nd
  rw [e] at nd
  refine ⟨ks, e, List.Pairwise.of_map (S := fun a b => a ≠ b) _ (fun a b n z => n (by rw [z])) nd, fun i => ?_⟩
  rw [← h.mem, e, List.mem_map]
  exact ⟨fun h => ⟨i, h, rfl⟩, fun ⟨j, hj, e⟩ => by cases e; exact hj⟩
end
end Fb

set_option maxHeartbeats 4000000
/-! classes of one's own, their methods and attributes -/
namespace Fb
open PySem PySem.Spec PyProof.Rows L2
structure ClsOk (K : PySem.W.Frag) (mg : Str → Option Value) (x : Str) (C : Addr) (fs : List Str) : Prop where
  mgC : mg x = some (.ref C)
  cl : Cls K C
  no : ∀ f ∈ fs, NoAttr K C f
theorem ClsOk.mk' {K : PySem.W.Frag} {h : Heap} {mg : Str → Option Value} {x : Str} {C : Addr} {fs : List Str} (X : K.In h) (G : h.Ns mainGlobals mg) (a : PySem.W.nsIn K mainGlobals x = some (some (.ref C)))
    (pg : PySem.W.plainGet K C Str.empty = true) (hd : PySem.W.hasDictIn K C = true) (po : PySem.W.plainOver K C = true) (sa : PySem.W.findIn K (.ref C) "__setattr__" = some (some (.builtin "object.__setattr__")))
    (no : ∀ f ∈ fs, NoAttr K C f) : ClsOk K mg x C fs := ⟨PySem.W.mg_of X G a, ⟨pg, hd, po, sa⟩, no⟩
theorem no_nil {K : PySem.W.Frag} {C : Addr} : ∀ f ∈ ([] : List Str), NoAttr K C f := fun f h => (List.not_mem_nil h).elim
theorem no_cons {K : PySem.W.Frag} {C : Addr} {g : Str} {fs : List Str} (h : PySem.W.findIn K (.ref C) g = some none) (r : ∀ f ∈ fs, NoAttr K C f) : ∀ f ∈ g :: fs, NoAttr K C f := fun f hf => by
  rcases List.mem_cons.mp hf with e | e
  · rw [e]; exact h
  · exact r f e
structure MetIn (K : PySem.W.Frag) (C : Addr) (m qual : Str) (st : Stmt) : Prop where
  ex : ∃ f fd, Fun K m qual st f fd ∧ Meth K C m f
structure MkIn (K : PySem.W.Frag) (C : Addr) (qual : Str) (st : Stmt) : Prop where
  ex : ∃ f fd, Fun K "__init__" qual st f fd ∧ Mk K C f
section
variable {K : PySem.W.Frag} {C f : Addr} {m qual : Str} {st : Stmt} {oc : Value} {od an : Option Addr} {osl : Array (Option Value)} {kV doc pm cdv ct : Value}
theorem MetIn.mk' (a : PySem.W.findIn K (.ref C) m = some (some (.ref f))) (i : PySem.W.isFn K (.ref f) = true)
    (l : K.lookup f = some ⟨oc, od, .func (PySem.W.fnOf m qual (defArgs st) (defBody st) (defScope st) .none kV doc pm an cdv ct), osl⟩) (c : PySem.W.codeIn K cdv qual = true) (k : PySem.W.keepIn K (.ref f) = true) : MetIn K C m qual st :=
  ⟨f, _, fun_mk l c k, ⟨a, i, k⟩⟩
theorem MkIn.mk' (a : PySem.W.findIn K (.ref C) "__init__" = some (some (.ref f))) (i : PySem.W.isFn K (.ref f) = true)
    (l : K.lookup f = some ⟨oc, od, .func (PySem.W.fnOf "__init__" qual (defArgs st) (defBody st) (defScope st) .none kV doc pm an cdv ct), osl⟩) (c : PySem.W.codeIn K cdv qual = true) (k : PySem.W.keepIn K (.ref f) = true)
    (mk : PySem.W.makesIn K C = true) (kc : PySem.W.keepIn K (.ref C) = true) : MkIn K C qual st :=
  ⟨f, _, fun_mk l c k, ⟨mk, a, i, kc⟩⟩
end
/-- a method that may be called: it keeps the promise sp (its first argument: the object) -/
structure CalM (P : Program) (w : World) (K : PySem.W.Frag) (mg : Str → Option Value) (base : Heap) (k : Nat) (C : Addr) (m : Str) (sp : Sp) : Prop where
  ex : ∃ (f : Addr) (fd : FuncData) (ps : List Str), Cls K C ∧ Meth K C m f ∧ FnOk P w K mg base (L2.CX P w) k f fd ps sp ∧ Binds K fd ps []
/-- a class that may be made by its name; sp: the promise of its __init__ -/
structure CalK (P : Program) (w : World) (K : PySem.W.Frag) (mg : Str → Option Value) (base : Heap) (k : Nat) (x : Str) (C : Addr) (sp : Sp) : Prop where
  ex : ∃ (f : Addr) (fd : FuncData) (ps : List Str), Mk K C f ∧ FnOk P w K mg base (L2.CX P w) k f fd ps sp ∧ mg x = some (.ref C) ∧ Binds K fd ps []
section
variable {P : Program} {w : World} {K : PySem.W.Frag} {mg : Str → Option Value} {base : Heap}
theorem CalM.mono {j k : Nat} {C : Addr} {m : Str} {sp : Sp} (c : CalM P w K mg base j C m sp) (h : j ≤ k) : CalM P w K mg base k C m sp := by
  obtain ⟨f, fd, ps, a, b, F, r⟩ := c.ex
  exact ⟨f, fd, ps, a, b, F.mono h, r⟩
theorem calM_of {x : Str} {C : Addr} {fs : List Str} {m qual : Str} {st : Stmt} {N ps : List Str} {k : Nat} {sp : Sp} (O : ClsOk K mg x C fs) (D : MetIn K C m qual st) (S : FnScope N ps (defScope st))
    (b : ∀ (kV doc pm : Value) (an : Option Addr) (cdv ct : Value) (us : List Value), us.length = ps.length → bindArgs (PySem.W.fnOf m qual (defArgs st) (defBody st) (defScope st) .none kV doc pm an cdv ct) ⟨us, []⟩ = pure (ps.zip us))
    (len : ∀ vs H Q E, sp vs H Q E → vs.length = ps.length)
    (hbody : ∀ (f : Addr) (cdv : Value) (A : Around) (outer : List Env) (s : Shared) (H : Hp) (vs : List V) (Q : VK) (E : XK), Room k (A.deeper (envOfC qual (defScope st) s.heap.objs.size f cdv)) → sp vs H Q E →
      ∃ t, PSs (cxOf (L2.CX P w) P w K mg base N qual (defScope st) f cdv A outer s H E).nox (defBody st) t ∧ t { nx := fun _ H' => Q .non H', rt := Q } (start N vs) H) : CalM P w K mg base (k + 1) C m sp := by
  obtain ⟨f, fd, F, hm⟩ := D.ex
  exact ⟨f, fd, ps, O.cl, hm, F.okX S len (fun cdv A outer s H vs Q E hr h => by
    obtain ⟨t, p, q⟩ := hbody f cdv A outer s H vs Q E hr h
    exact ⟨t, p.nox, q⟩), F.binds b⟩
theorem calK_of {x : Str} {C : Addr} {fs : List Str} {qual : Str} {st : Stmt} {N ps : List Str} {k : Nat} {sp : Sp} (O : ClsOk K mg x C fs) (D : MkIn K C qual st) (S : FnScope N ps (defScope st))
    (b : ∀ (kV doc pm : Value) (an : Option Addr) (cdv ct : Value) (us : List Value), us.length = ps.length → bindArgs (PySem.W.fnOf "__init__" qual (defArgs st) (defBody st) (defScope st) .none kV doc pm an cdv ct) ⟨us, []⟩ = pure (ps.zip us))
    (len : ∀ vs H Q E, sp vs H Q E → vs.length = ps.length)
    (hbody : ∀ (f : Addr) (cdv : Value) (A : Around) (outer : List Env) (s : Shared) (H : Hp) (vs : List V) (Q : VK) (E : XK), Room k (A.deeper (envOfC qual (defScope st) s.heap.objs.size f cdv)) → sp vs H Q E →
      ∃ t, PSs (cxOf (L2.CX P w) P w K mg base N qual (defScope st) f cdv A outer s H E).nox (defBody st) t ∧ t { nx := fun _ H' => Q .non H', rt := Q } (start N vs) H) : CalK P w K mg base (k + 1) x C sp := by
  obtain ⟨f, fd, F, hm⟩ := D.ex
  exact ⟨f, fd, ps, hm, F.okX S len (fun cdv A outer s H vs Q E hr h => by
    obtain ⟨t, p, q⟩ := hbody f cdv A outer s H vs Q E hr h
    exact ⟨t, p.nox, q⟩), O.mgC, F.binds b⟩
end
section
variable {X : Cx} {k j : Nat} {C : Addr} {x m : Str} {sp : Sp} {p pos apos : Pos} {e o : Expr} {es : List Expr} {ta : TE} {t : TA}
theorem pk (c : CalK X.prog X.w X.K X.mg X.base k x C sp) (hr : Room j X.A) (hk : k + 1 ≤ j) (ha : PA X (e :: es) t) (hg : Gl X x := by rfl)
    (hdb : (x == ("__debug__" : Str)) = false := by decide) (he : starEach (e :: es) X.env = (false, eval e X.env) :: starEach es X.env := by rfl) (hpl : (backTo pos (starEach es X.env)).any (·.1) = false := by rfl) :
    PE X (.Call (.Name x p) (e :: es) [] pos) (tMake C sp [] E0 t) := by
  obtain ⟨f, fd, ps, M, F, hm, b⟩ := c.ex
  exact pe_make M F (hr.mono hk) hg hm b .nil passL ha hdb he hpl
theorem pm {pl : Sem Bool} (c : CalM X.prog X.w X.K X.mg X.base k C m sp) (hr : Room j X.A) (hk : k ≤ j) (he : PE X o ta) (ha : PA X (e :: es) t)
    (hst : starEach (e :: es) X.env = (false, eval e X.env) :: starEach es X.env := by rfl) (hpl : (backTo pos (starEach es X.env)).any (·.1) = false := by rfl)
    (ht : eval (.Call (.Attribute o m apos) (e :: es) [] pos) X.env = (do
      let ov ← eval o X.env
      standAt apos.atName
      let (f, first) ← holding [ov] (getMethod ov m pl)
      callWith pos f first (backTo pos (starEach (e :: es) X.env)) (backToKw pos (keywordEach [] X.env))) := by rfl) :
    PE X (.Call (.Attribute o m apos) (e :: es) [] pos) (tMeth C m sp [] E0 ta t) := by
  obtain ⟨f, fd, ps, hc, hm, F, b⟩ := c.ex
  exact pe_meth (pl := pl) he hc hm F (hr.mono hk) b .nil passL ha hst hpl ht
theorem pm0 {pl : Sem Bool} (c : CalM X.prog X.w X.K X.mg X.base k C m sp) (hr : Room j X.A) (hk : k ≤ j) (he : PE X o ta)
    (ht : eval (.Call (.Attribute o m apos) [] [] pos) X.env = (do
      let ov ← eval o X.env
      standAt apos.atName
      let (f, first) ← holding [ov] (getMethod ov m pl)
      callWith pos f first (backTo pos (starEach [] X.env)) (backToKw pos (keywordEach [] X.env))) := by rfl) :
    PE X (.Call (.Attribute o m apos) [] [] pos) (tMeth C m sp [] E0 ta tNil) := by
  obtain ⟨f, fd, ps, hc, hm, F, b⟩ := c.ex
  exact pe_meth0 (pl := pl) he hc hm F (hr.mono hk) b .nil passL ht
end
section
variable {σ : L2.St} {H : Hp} {nx bk ct : L2.St → Hp → Prop} {rt : VK} {Q : VK} {ta tv te : TE} {t : TA} {K : PySem.W.Frag} {C : Addr} {sp : Sp} {f m : Str}
theorem i_fld (h : ta σ H fun x H1 => ∃ a C dx fs v, x = .ref a ∧ H1 a = some (.ins C dx fs) ∧ Cls K C ∧ NoAttr K C f ∧ fs.lookup f = some v ∧ Q v H1) : tFld K ta f σ H Q := h
theorem i_fldV {a dx : Addr} {fs : List (Str × V)} {v : V} {mg : Str → Option Value} {x : Str} {ns : List Str} {R : V → Prop} (O : ClsOk K mg x C ns) (hn : f ∈ ns) (h : H a = some (.ins C dx fs)) (l : fs.lookup f = some v) (q : R v) :
    ∃ (a' C dx : Addr) (fs : List (Str × V)) (v : V), V.ref a = .ref a' ∧ H a' = some (.ins C dx fs) ∧ Cls K C ∧ NoAttr K C f ∧ fs.lookup f = some v ∧ R v := ⟨a, C, dx, fs, v, rfl, h, O.cl, O.no f hn, l, q⟩
theorem i_meth (h : ta σ H fun x H1 => ∃ a dx fs, x = .ref a ∧ H1 a = some (.ins C dx fs) ∧ fs.lookup m = none ∧ t σ H1 fun vs H2 => sp (x :: vs) H2 Q E0) : tMeth C m sp [] E0 ta t σ H Q := by
  have e : (fun (x : V) (H1 : Hp) => ∃ a dx fs, x = V.ref a ∧ H1 a = some (HO.ins C dx fs) ∧ fs.lookup m = none ∧ t σ H1 fun vs H2 => sp (x :: (vs ++ [])) H2 Q E0) = fun x H1 => ∃ a dx fs, x = .ref a ∧ H1 a = some (.ins C dx fs) ∧ fs.lookup m = none ∧ t σ H1 fun vs H2 => sp (x :: vs) H2 Q E0 := by
    funext x H1
    have : (fun (vs : List V) (H2 : Hp) => sp (x :: (vs ++ [])) H2 Q E0) = fun vs H2 => sp (x :: vs) H2 Q E0 := by
      funext vs H2
      rw [List.append_nil]
    rw [this]
  show ta σ H fun (x : V) (H1 : Hp) => ∃ a dx fs, x = V.ref a ∧ H1 a = some (HO.ins C dx fs) ∧ fs.lookup m = none ∧ t σ H1 fun vs H2 => sp (x :: (vs ++ [])) H2 Q E0
  rw [e]
  exact h
theorem i_methV {a dx : Addr} {fs : List (Str × V)} {N : Prop} (h : H a = some (.ins C dx fs)) (l : fs.lookup m = none) (q : N) :
    ∃ (a' dx : Addr) (fs : List (Str × V)), V.ref a = .ref a' ∧ H a' = some (.ins C dx fs) ∧ fs.lookup m = none ∧ N := ⟨a, dx, fs, rfl, h, l, q⟩
theorem i_make (h : t σ H fun vs H1 => ∀ x dx, H1 x = none → H1 dx = none → dx ≠ x → sp (.ref x :: vs) (upd (upd H1 dx (.own x)) x (.ins C dx [])) (fun v H2 => v = .non ∧ Q (.ref x) H2) E0) : tMake C sp [] E0 t σ H Q := by
  have e : (fun (vs : List V) (H1 : Hp) => ∀ x dx, H1 x = none → H1 dx = none → dx ≠ x → sp (.ref x :: (vs ++ [])) (upd (upd H1 dx (.own x)) x (.ins C dx [])) (fun v H2 => v = V.non ∧ Q (.ref x) H2) E0) = fun vs H1 => ∀ x dx, H1 x = none → H1 dx = none → dx ≠ x → sp (.ref x :: vs) (upd (upd H1 dx (.own x)) x (.ins C dx [])) (fun v H2 => v = .non ∧ Q (.ref x) H2) E0 := by
    funext vs H1
    rw [List.append_nil]
  show t σ H fun (vs : List V) (H1 : Hp) => ∀ x dx, H1 x = none → H1 dx = none → dx ≠ x → sp (.ref x :: (vs ++ [])) (upd (upd H1 dx (.own x)) x (.ins C dx [])) (fun v H2 => v = V.non ∧ Q (.ref x) H2) E0
  rw [e]
  exact h
theorem i_sfld (h : tv σ H fun y H1 => ta σ H1 fun x H2 => ∃ a C dx fs, x = .ref a ∧ H2 a = some (.ins C dx fs) ∧ Cls K C ∧ NoAttr K C f ∧ fs.length < 1000 ∧ nx σ (upd H2 a (.ins C dx (putF f y fs)))) : sFld K ta tv f ⟨nx, rt, bk, ct⟩ σ H := h
theorem i_sfldV {a dx : Addr} {fs : List (Str × V)} {y : V} {mg : Str → Option Value} {x : Str} {ns : List Str} (O : ClsOk K mg x C ns) (hn : f ∈ ns) (h : H a = some (.ins C dx fs)) (hl : fs.length < 1000) (q : nx σ (upd H a (.ins C dx (putF f y fs)))) :
    ∃ (a' C dx : Addr) (fs : List (Str × V)), V.ref a = .ref a' ∧ H a' = some (.ins C dx fs) ∧ Cls K C ∧ NoAttr K C f ∧ fs.length < 1000 ∧ nx σ (upd H a' (.ins C dx (putF f y fs))) := ⟨a, C, dx, fs, rfl, h, O.cl, O.no f hn, hl, q⟩
theorem k_sfld {X : Cx} {o value : Expr} {pos pos' : Pos} (h : X.K = K) (ha : PE X o ta) (hv : PE X value tv) (hs : swapsWith value (some (.Attribute o f pos')) pos.line X.env = pure false := by rfl) : PS X (.Assign [.Attribute o f pos'] value pos) (sFld K ta tv f) := h ▸ ps_fld ha hv hs
def rSetD : TSet := fun o i v H N => ∃ a H', o = .ref a ∧ DPut H a i v H' ∧ N H'
theorem set_dict {X : Cx} (hu : X.A.units + 1 < cLine) : PSet X rSetD := fun pins s σ H o i v ov iv u Q I ro ri rv ⟨a, H', e, g, q⟩ => by
  subst e
  obtain rfl : ov = Value.ref a := ro
  exact d_setItem hu I g ri rv fun s' I' => ⟨H', I', q⟩
theorem lk_hit {g : Str} {v : V} {fs : List (Str × V)} (e : g = f) : (putF f v fs).lookup g = some v := by rw [lookup_putF, if_pos e]
theorem lk_miss {g : Str} {v : V} {fs : List (Str × V)} {o : Option V} (e : g ≠ f) (h : fs.lookup g = o) : (putF f v fs).lookup g = o := by rw [lookup_putF, if_neg e, h]
theorem putF_len (f : Str) (v : V) (fs : List (Str × V)) : (putF f v fs).length ≤ fs.length + 1 := by have := length_putF f v fs; omega
end
end Fb

set_option maxHeartbeats 4000000
namespace Fb
open PySem PySem.Spec PyProof.Rows L2
theorem tuple_mul1 (l : Addr) (items : Array Value) (n : Nat) (dd : Option Addr) (sl : Array (Option Value)) (u : Tok) :
    Meets (Builtin.«tuple.__mul__» ⟨[.ref l, .int 1 u], []⟩) (fun _ R s => s.heap.get? l = some { cls := .type "tuple", dict := dd, data := .seq items n, slots := sl } ∧ R (.ok (.ret (Value.ref l))) s) :=
  .of_wp fun prog w A R s h => by
    obtain ⟨hp, g, d, tk, os⟩ := s
    obtain ⟨hl, h⟩ := h
    have f1 := AutoSeq1.idx_int
    have c0 : (decide ((1 : Int) < -(2 ^ 63)) || decide ((1 : Int) ≥ 2 ^ 63)) = false := by decide
    have c1 : (items.isEmpty || (1 : Int) == 1) = true := by simp
    wp_walk using wpAny_loadPart' hl
    repeat (first
      | (refine wpAny_ite_false (decide_eq_false (by rw [c0]; exact Bool.false_ne_true)) ?_; wp_walk using wpAny_loadPart' hl)
      | (refine wpAny_ite_true (decide_eq_true (by rw [c1])) ?_; wp_walk using wpAny_loadPart' hl))
    exact ⟨_, rfl, h⟩
def rRepT1 (K : PySem.W.Frag) : R2 := fun x y H Q => ∃ l xs, x = .ref l ∧ y = .int 1 ∧ SqT K H l xs ∧ Q (.ref l) H
theorem op_repT1 {X : Cx} : OpR X (binaryOp .Mult) (rRepT1 X.K) := by
  intro pins s σ H x y v u Q I rx ry h
  obtain ⟨l, xs, rfl, rfl, hT, q⟩ := h
  cases rx
  obtain ⟨t, rfl⟩ := ry
  obtain ⟨its, r, ⟨⟨cls, dd, data, sl⟩, ho, hc, n, hd⟩, hs⟩ := I.tuple hT
  simp only at hc hd
  subst hc hd
  refine wpAny_binaryOp_repeat_ref (T := "tuple") (U := "int") (by decide) ⟨_, ho, rfl⟩ (fun s' => typeIs_int s' 1 t) noFill_tuple_mul F.fills_int_mul F.slot_int_rmul repeat_tuple F.slot_int_index.lookup
    (call_meets F.slot_int_rmul (typeIs_int s 1 t) F.entry_int_rmul (F.args_int_rmul_2 _ _) (int_rmul_tuple 1 t l its.toArray n dd sl)
      ⟨ho, rfl, ⟨_, ho, rfl⟩, call_meets F.slot_tuple_mul ⟨_, ho, rfl⟩ F.entry_tuple_mul (F.args_tuple_mul_2 _ _) (tuple_mul1 l its.toArray n dd sl t) ⟨ho, ?_⟩⟩)
  exact ⟨.ref l, H, I, rfl, q⟩
def rRepTN (K : PySem.W.Frag) : R2 := fun x y H Q => rRepT1 K x y H Q ∨ rRepT K x y H Q
theorem k_repTN {K : PySem.W.Frag} {X : Cx} (hk : X.K = K) : OpR X (binaryOp .Mult) (rRepTN K) := hk ▸ op_repT1.or op_repT
section
variable {B : List Addr} {H0 H : Hp} {L : List (Addr × HO)} {P : List (Hp → Prop)}
/-- objects of one's own, in another order -/
theorem Stt.perm {L' : List (Addr × HO)} (s : Stt B H0 L P H) (e : L.Perm L') : Stt B H0 L' P H :=
  ⟨s.ex, fun p h => s.own p (e.mem_iff.mpr h), fun p h => s.mu p (e.mem_iff.mpr h), fun p h => s.fr p (e.mem_iff.mpr h), (e.map (·.1)).nodup_iff.mp s.nd, s.ps, s.pp, s.tk⟩
theorem Stt.sub (s : Stt B H0 L P H) (h : L'.Sublist L) : Stt B H0 L' P H :=
  ⟨s.ex, fun p hp => s.own p (h.subset hp), fun p hp => s.mu p (h.subset hp), fun p hp => s.fr p (h.subset hp), (h.map (·.1)).nodup s.nd, s.ps, s.pp, s.tk⟩
theorem Stt.front (s : Stt B H0 (L ++ [x]) P H) : Stt B H0 (x :: L) P H := s.perm (List.perm_append_singleton x L)
theorem i_tp3 {k1 v1 k2 v2 k3 v3 : TE} {σ : L2.St} {H : Hp} {Q : List (V × V) → Hp → Prop} (h : k1 σ H fun x1 H1 => v1 σ H1 fun y1 H2 => k2 σ H2 fun x2 H3 => v2 σ H3 fun y2 H4 => k3 σ H4 fun x3 H5 => v3 σ H5 fun y3 H6 => Q [(x1, y1), (x2, y2), (x3, y3)] H6) : tPairs [(k1, v1), (k2, v2), (k3, v3)] σ H Q := h
theorem i_iR2 {tr : L2.TA} {σ : L2.St} {H : Hp} {R : It → Hp → Prop} (h : tr σ H fun vs H1 => ∃ i j : Int, vs = [.int i, .int j] ∧ (-(2 ^ 62) ≤ i ∧ i < 2 ^ 62 ∧ -(2 ^ 62) ≤ j ∧ j < 2 ^ 62) ∧ R (Itr i (j - i).toNat) H1) : iRng2 tr σ H R := h
end
end Fb

set_option maxHeartbeats 4000000
namespace Fb
open PySem PySem.Spec PyProof.Rows L2
/-! ### t.index(i), a tuple of ints -/
section
variable {X : Cx}
def rIxTI (K : PySem.W.Frag) : V → List V → Hp → VK → Prop := fun x xs H Q => ∃ (p : Addr) (ns : List Int) (i : Int) (j : Nat), x = .ref p ∧ xs = [.int i] ∧ SqT K H p (ns.map V.int) ∧ ns[j]? = some i ∧ (∀ m, m < j → ns[m]? ≠ some i) ∧ Q (.int (j : Nat)) H
theorem flat_iV (ns : List Int) : (ns.map V.int).all flatV = true := by
  rw [List.all_map]
  exact List.all_eq_true.mpr fun _ _ => rfl
theorem mt_indexTI : MtR X "tuple.index" (rIxTI X.K) := by
  intro pins s σ H x xs v us Q I rx rs h
  obtain ⟨p, ns, i, j, rfl, rfl, hq, hi, hno, q⟩ := h
  cases rx
  obtain ⟨u, rfl, t, rfl⟩ := vals1 rs
  obtain ⟨its, r, pl, hz⟩ := I.tuple hq
  obtain ⟨⟨cls, dd, dt, sl⟩, ho, hc, n, hd⟩ := pl
  simp only at hc hd
  subst hc
  subst hd
  have hl : its.toArray.size = ns.length := by rw [List.size_toArray, ← r.length, List.length_map]
  have hj : j < its.toArray.size := by rw [hl]; exact (List.getElem?_eq_some_iff.mp hi).1
  have at' : ∀ (m : Nat) (hm : m < its.toArray.size), ∃ y t', ns[m]? = some y ∧ its.toArray[m] = Value.int y t' := fun m hm => by
    have hm' : m < ns.length := by rw [← hl]; exact hm
    obtain ⟨w, hw, t', hw'⟩ := r.get (i := m) (x := .int ns[m]) (by simp [hm'])
    refine ⟨ns[m], t', List.getElem?_eq_getElem hm', ?_⟩
    have e := (List.getElem?_eq_some_iff.mp hw).2
    rw [← hw', ← e]
    simp
  refine call_meets PySem.F.slot_tuple_index ⟨_, ho, rfl⟩ PySem.F.entry_tuple_index (PySem.F.args_tuple_index_2 _ _) (TI.tuple_indexAt p its.toArray n dd sl (.int i t) (eqU (.int i)) j hj ?_ ?_)
    ⟨ho, fun w hw => mem_eqAt (x := .int i) ⟨t, rfl⟩ rfl r (flat_iV ns) w (by simpa using hw), ⟨.int (j : Nat), H, I.tok _, ⟨_, rfl⟩, q⟩⟩
  · obtain ⟨y, t', h1, h2⟩ := at' j hj
    rw [hi] at h1
    cases h1
    rw [h2]
    show decide (i = i) = true
    exact decide_eq_true rfl
  · intro m hm hmj
    obtain ⟨y, t', h1, h2⟩ := at' m hm
    rw [h2]
    show decide (y = i) = false
    exact decide_eq_false fun e => hno m hmj (e ▸ h1)
theorem k_indexTI {K : PySem.W.Frag} (h : X.K = K) : MtR X "tuple.index" (rIxTI K) := h ▸ mt_indexTI
end
/-! tuples of which the object is known: made so, and methods of theirs -/
section
variable {X : Cx} {K : PySem.W.Frag}
/-- tuple(xs), xs a list -/
def rTupleN (K : PySem.W.Frag) : List V → Hp → VK → Prop := fun xs H Q => ∃ p ys, xs = [.ref p] ∧ SqL K H p ys ∧ ∀ (l : Addr) (o : Obj), H l = none → o.cls = .type "tuple" → o.dict = none → Q (.ref l) (upd H l (.frz o (.tup ys)))
theorem call_tupleN : CallR X (.type "tuple") (rTupleN X.K) := by
  intro pins s σ H xs us Q I r h
  obtain ⟨p, ys, rfl, hq, q⟩ := h
  obtain ⟨u, rfl, rx⟩ := vals1 r
  cases rx
  obtain ⟨its, r', pl, hz⟩ := I.list hq
  have hlen := r'.length
  refine call_tuple_list pl.isList (fun h' kp => ?_) (by simp only [List.size_toArray] <;> omega)
  have I1 : Inv X pins σ H { s with heap := h' } := I.kept (t' := s.toks) kp
  have I2 : Inv X pins σ (upd H h'.objs.size (.frz { cls := .type "tuple", data := .seq its.toArray } (.tup ys))) { s with heap := h'.push { cls := .type "tuple", data := .seq its.toArray } } :=
    I1.laid (t' := s.toks) (fun b o e => Heap.get?_push_of_some _ e) (Nat.le_refl _) (show ObjOk X.prog X.w _ _ _ (.frz _ (.tup ys)) from ⟨Heap.get?_push_size _ rfl, hz, its, r', IsTup.new _ _⟩)
  exact ⟨.ref h'.objs.size, _, I2, rfl, q _ _ (I1.hok.fresh (Nat.le_refl _)) rfl rfl⟩
theorem k_tupleN (h : X.K = K) : CallR X (.type "tuple") (rTupleN K) := h ▸ call_tupleN
def tBMT (r : V → List V → Hp → VK → Prop) (to : TE) (t : TA) : TE := fun σ H Q => to σ H fun x H1 => (∃ p xs, x = .ref p ∧ TupN H1 p xs) ∧ t σ H1 fun vs H2 => r x vs H2 Q
variable {o e : Expr} {es : List Expr} {to : TE} {t : TA} {name : Str} {apos cpos : Pos} {id : String} {r : V → List V → Hp → VK → Prop}
theorem pe_bmT (pa : PlainAttrs "tuple") (slot : Slot "tuple" name id) (hty : typeOf (.builtin id) = pure (.type "method_descriptor")) (hm : MtR X id r) (ho : PE X o to) (ha : PA X (e :: es) t)
    (hbase : attributeBase o name X.env (eval o X.env) = eval o X.env := by rfl)
    (hfew : ((backTo cpos (starEach (e :: es) X.env)).all (fun x => !x.1) && (backToKw cpos (keywordEach [] X.env)).all (fun x => x.1.isSome)
      && decide ((e :: es).length + ([] : List Keyword).length + (if ([] : List Keyword).isEmpty then 0 else 1) < 30)) = true := by rfl)
    (hline : (apos.endLine == cpos.line) = true := by rfl) (hs : starEach (e :: es) X.env = (false, eval e X.env) :: starEach es X.env := by rfl) (hplain : (backTo cpos (starEach es X.env)).any (·.1) = false := by rfl) :
    PE X (.Call (.Attribute o name apos) (e :: es) [] cpos) (tBMT r to t) := by
  refine ⟨fun pins s σ H Q I h => ?_⟩
  refine wpAny_Call_method_late hbase hfew hline rfl (thn (ho.run pins s σ H _ I h) fun v s1 ⟨x, H1, I1, r1, ty, q1⟩ => ?_)
  obtain ⟨p, xs, rfl, ob, hc, hd, hp⟩ := ty
  have ev : v = Value.ref p := r1
  subst ev
  have hob : s1.heap.get? p = some ob := (I1.hok p _ hp).1
  refine ⟨"tuple", id, pa, slot, hty, ⟨ob, hob, hc⟩, fun a e => ?_, ?_⟩
  · cases e
    exact ⟨ob, hob, hd⟩
  have hA := ha.run cpos pins s1 σ H1 _ I1 q1
  rw [hs] at hA ⊢
  refine Calls.callWith_builtin (by show (false || (backTo cpos (starEach es X.env)).any (·.1)) = false; rw [hplain] <;> rfl) (Calls.evalArgs_plain ?_)
  exact thn hA fun us s2 ⟨vs, H2, I2, r2, q2⟩ => hm pins s2 σ H2 (.ref p) vs _ us Q I2 rfl r2 q2
end
theorem i_bmT {r : V → List V → Hp → VK → Prop} {to : TE} {t : TA} {σ : L2.St} {H : Hp} {Q : VK} (h : to σ H fun x H1 => (∃ p xs, x = .ref p ∧ TupN H1 p xs) ∧ t σ H1 fun vs H2 => r x vs H2 Q) : tBMT r to t σ H Q := h
theorem Pers.tupN {a : Addr} {xs : List V} : Pers fun H => TupN H a xs := fun _ _ t h => h.keep t
/-- tuple(xs) within a walk, the object known -/
theorem st_tupleN {K : PySem.W.Frag} {B : List Addr} {H0 H : Hp} {L : List (Addr × HO)} {P : List (Hp → Prop)} {Q : VK} (s : Stt B H0 L P H) {p : Addr} {ys : List V} (h : SqL K H p ys) (k : ∀ l H', H l = none → Stt B H0 L (P ++ [fun H => TupN H l ys]) H' → Q (.ref l) H') : rTupleN K [.ref p] H Q :=
  ⟨p, ys, rfl, h, fun l o hl h1 h2 => k l _ hl ((s.ext (Same.new hl)).know ⟨o, h1, h2, upd_same⟩ Pers.tupN)⟩
end Fb

set_option maxHeartbeats 4000000
/-! sorted(d.items()), d a dict of ints by ints; sorted lists of pairs; pairs in lists of pairs -/
namespace Fb
open PySem PySem.Spec PyProof.Rows L2 L2.DX PySem.Calls PyProof.V
/-- d.items() of a written dict -/
def rItemsK : V → List V → Hp → VK → Prop := fun x xs H Q => ∃ (a : Addr) (kvs : List (Key × V)), x = .ref a ∧ xs = [] ∧ H a = some (.dK kvs) ∧ ∀ p, H p = none → Q (.ref p) (upd H p (itemsO p a))
theorem mt_itemsK {X : Cx} : MtR X "dict.items" rItemsK := by
  intro pins s σ H x xs v us Q I rx rxs h
  obtain ⟨a, kvs, rfl, rfl, ha, q⟩ := h
  cases rx
  cases rxs
  obtain ⟨hz, hs0, vs, kv, hdo⟩ := I.hok a _ ha
  have hf : H s.heap.objs.size = none := I.hok.fresh (Nat.le_refl _)
  refine call_meetsIn PySem.F.slot_dict_items hdo.typeIs PySem.F.entry_dict_items (PySem.F.args_dict_items_1 _) (meets_dict_items (mixKind X.prog X.w) a hs0) ⟨⟨vs, hdo⟩, ?_⟩
  exact ⟨.ref s.heap.objs.size, upd H s.heap.objs.size (itemsO s.heap.objs.size a), I.laid (t' := s.toks) (fun b u e => Heap.get?_push_of_some _ e) (Nat.le_refl _) (itemsO_ok (Heap.get?_push_size _ rfl)), rfl, q _ hf⟩
/-- the pairs of a dict of ints by ints -/
def intsKV (kvs : List (Int × Int)) : List (Key × V) := kvs.map fun e => (.inl e.1, .int e.2)
def rSortIt2 : List V → Hp → VK → Prop := fun vs H Q => ∃ (p a : Addr) (kvs : List (Int × Int)), vs = [.ref p] ∧ H p = some (itemsO p a) ∧ H a = some (.dK (intsKV kvs)) ∧
  ∀ (H' : Hp) (l : Addr) (ts : List Addr) (ps : List (Int × Int)), Same H H' → H l = none → H' l = some (.lst (ts.map V.ref)) → Paired (fun (t : Addr) (q : Int × Int) => H' t = some (.tup [.int q.1, .int q.2])) ts ps → ps.Perm kvs → ps.Pairwise (fun x y => SrtO.lexB y x = false) → Q (.ref l) H'
theorem map_backV (as : List Addr) : (as.map V.ref) = (as.map Value.ref).map backV := by
  rw [List.map_map]; rfl
theorem intsKV_at {kvs : List (Int × Int)} {j : Nat} {e : Key × V} (h : (intsKV kvs)[j]? = some e) : ∃ q, kvs[j]? = some q ∧ e = (.inl q.1, .int q.2) := by
  unfold intsKV at h
  rw [List.getElem?_map] at h
  cases hj : kvs[j]? with
  | none => rw [hj] at h; cases h
  | some q =>
    rw [hj] at h
    exact ⟨q, rfl, (Option.some.inj h).symm⟩
theorem pairs_at {K : Type} [DecidableEq K] {prog : Program} {w : World} {knd : KeyKind prog w K} : ∀ {es : List DictEntry} {kvs : List (K × Value)}, Pairs knd es kvs → ∀ {j : Nat} {e : DictEntry}, es[j]? = some e → ∃ q, kvs[j]? = some q ∧ knd.is q.1 e.key = true ∧ e.val = q.2
  | _, _, .nil, j, e, h => by cases h
  | _, _, .cons h1 h2 _, 0, e, h => by
    have e1 := Option.some.inj (show some _ = some e from h)
    subst e1
    exact ⟨_, rfl, h1, h2⟩
  | _, _, .cons _ _ r, j + 1, e, h => pairs_at (j := j) r h
theorem cr_sortedIt2 {X : Cx} (hc : X.calm = true) : CallR X (.builtin "sorted") rSortIt2 := by
  intro pins s σ H xs us Q I r h
  obtain ⟨p, a, kvs, rfl, hp, ha, q⟩ := h
  obtain rfl := Vals.ref1 r
  have view : s.heap.IsItemsView p a := (show ObjOk X.prog X.w H s.heap p (itemsO p a) from I.hok p _ hp).1
  obtain ⟨hz, hs0, vs, kv, hdo⟩ := I.hok a _ ha
  obtain ⟨oo, es, ep, ho, hx, hdat, _, hpairs, _⟩ := hdo
  have lk : (intsKV kvs).length = vs.length := Paired.length kv
  have lkk : kvs.length = vs.length := by rw [← lk]; unfold intsKV; rw [List.length_map]
  have les : es.size = vs.length := by rw [← Array.length_toList]; exact hpairs.length
  refine DT.sortedI (es := es) (ep := ep) (I.ok.hd hc) view ⟨oo, ho, hx, hdat⟩ (by omega) fun h' tk as hk hlt0 hl hG => ?_
  have hlt : s.heap.objs.size ≤ h'.objs.size := Nat.le_of_lt hlt0
  have lak : as.length = kvs.length := by omega
  have nd : as.Nodup := List.Pairwise.imp (fun h => Nat.ne_of_lt h) hG.rise
  have pr : ∀ (j : Nat) (b : Addr), as[j]? = some b → ∃ (e : Int × Int) (t1 t2 : Tok), kvs[j]? = some e ∧ h'.get? b = some { cls := .type "tuple", data := .seq #[Value.int e.1 t1, Value.int e.2 t2] } := by
    intro j b hj
    obtain ⟨en, he, f3⟩ := hG.pairs j b hj
    obtain ⟨⟨k, x⟩, f1, f2, f4⟩ := pairs_at hpairs (by rw [Array.getElem?_toList]; exact he)
    obtain ⟨y, g1, g2, g3⟩ := L2.DX.pget kv f1
    obtain ⟨e, e1, rfl⟩ := intsKV_at g1
    have rk : L2.RelV (kV (.inl e.1)) en.key := by
      have g2 : (Sum.inl e.1 : Key) = k := g2
      rw [g2]
      exact relV_key (show keyIs k en.key = true from f2)
    obtain ⟨t1, rk⟩ := rk
    have rk : en.key = Value.int e.1 t1 := rk
    obtain ⟨t2, g3⟩ := g3
    have g3 : x = Value.int e.2 t2 := g3
    exact ⟨e, t1, t2, e1, by rw [f3, f4, g3, rk]⟩
  have hob : (h'.push { cls := .type "list", data := .seq (as.map Value.ref).toArray }).get? h'.objs.size = some (seqObj "list" (as.map Value.ref).toArray 0) := Heap.get?_push_size _ rfl
  have kb : ∀ b o, s.heap.get? b = some o → (h'.push { cls := .type "list", data := .seq (as.map Value.ref).toArray }).get? b = some o := fun b o e => Heap.get?_push_of_some _ (hk b o e)
  have ne0 : ∀ b o, h'.get? b = some o → b ≠ h'.objs.size := fun b o e => Nat.ne_of_lt (Heap.lt_size e)
  generalize hh2 : h'.push { cls := .type "list", data := .seq (as.map Value.ref).toArray } = h2 at hob kb ⊢
  have ka : ∀ b o, h'.get? b = some o → h2.get? b = some o := fun b o e => by rw [← hh2]; exact Heap.get?_push_of_some _ e
  have at_ : ∀ v ∈ as.map Value.ref, ∃ (j : Nat) (b : Addr) (e : Int × Int) (t1 t2 : Tok), v = .ref b ∧ as[j]? = some b ∧ kvs[j]? = some e ∧ kvs.getD (as.idxOf b) (0, 0) = e ∧ h'.get? b = some { cls := .type "tuple", data := .seq #[Value.int e.1 t1, Value.int e.2 t2] } := by
    intro v hv'
    obtain ⟨b, hb, rfl⟩ := List.mem_map.mp hv'
    obtain ⟨j, hj⟩ := List.mem_iff_getElem?.mp hb
    obtain ⟨e, t1, t2, he, hg⟩ := pr j b hj
    have hi : as.idxOf b = j := by
      have h1 : as.idxOf b < as.length := List.idxOf_lt_length_of_mem hb
      have h2 : as[as.idxOf b]? = some b := by rw [List.getElem?_eq_getElem h1]; simp
      exact (List.getElem?_inj h1 nd).mp (h2.trans hj.symm)
    exact ⟨j, b, e, t1, t2, rfl, hj, he, by rw [hi, List.getD_eq_getElem?_getD, he]; rfl, hg⟩
  let kk : V → Int × Int := fun v => match v with | .ref b => kvs.getD (as.idxOf b) (0, 0) | _ => (0, 0)
  have hpair : ∀ v ∈ as.map Value.ref, Srt.IsPair h2 v (kk (backV v)).1 (kk (backV v)).2 := fun v hv => by
    obtain ⟨j, b, e, t1, t2, rfl, hj, he, hk1, hg⟩ := at_ v hv
    have : kk (backV (.ref b)) = e := hk1
    rw [this]
    exact ⟨b, _, t1, t2, _, rfl, ka _ _ hg, rfl, rfl⟩
  have hsort : wpAny (model X.prog X.w) X.A.in1 (call (.builtin "list.sort") [.ref h'.objs.size]) (fun _ s' => EP X pins σ Q (.ref h'.objs.size) s') X.xe { s with heap := h2, toks := tk } := by
    refine wpAny_call_entry (s := { s with heap := h2, toks := tk }) PyProof.Rows.slot_list_sort ⟨_, hob, rfl⟩ PyProof.Rows.entry_list_sort
      (SrtO.list_sort_ord (s := { s with heap := h2, toks := tk }) (SrtO.swo_lex fun u => kk (backV u)) hob (by rw [List.length_map]; omega) (fun h2' => SrtO.pairs_sortableO (by omega) hpair fun o e => ?_) fun out h1 h3 => ⟨.none, rfl, ?_⟩) (PyProof.Rows.args_list_sort _)
    · have e' : some o = some (seqObj "list" (as.map Value.ref).toArray 0) := e.symm.trans hob
      cases e'
      intro c
      exact absurd (Value.type.inj c) (by decide)
    · show EP X pins σ Q (.ref h'.objs.size) { s with heap := sortedHeap h2 h'.objs.size (as.map Value.ref) out.toArray, toks := tk }
      obtain ⟨zs, hzs⟩ : ∃ zs : List Addr, out = zs.map Value.ref := by
        have : ∀ u ∈ out, ∃ b, u = Value.ref b := fun u hu => by
          obtain ⟨_, b, _, _, _, e, _⟩ := at_ u (h3.perm.mem_iff.mp hu)
          exact ⟨b, e⟩
        clear h1 h3
        induction out with
        | nil => exact ⟨[], rfl⟩
        | cons u r ih =>
          obtain ⟨b, rfl⟩ := this u (List.mem_cons_self ..)
          obtain ⟨zs, rfl⟩ := ih fun v hv => this v (List.mem_cons_of_mem _ hv)
          exact ⟨b :: zs, rfl⟩
      subst hzs
      have pz : zs.Perm as := by
        have := h3.perm.map fun v : Value => match v with | .ref b => b | _ => 0
        rw [List.map_map, List.map_map] at this
        have e1 : ∀ l : List Addr, l.map ((fun v : Value => match v with | .ref b => b | _ => 0) ∘ Value.ref) = l := fun l => by
          have : ((fun v : Value => match v with | .ref b => b | _ => 0) ∘ Value.ref) = (id : Addr → Addr) := rfl
          rw [this, List.map_id]
        rw [e1, e1] at this
        exact this
      have hps : (zs.map fun b => kvs.getD (as.idxOf b) (0, 0)).Perm kvs := by
        refine (pz.map _).trans (List.Perm.of_eq ?_)
        refine List.ext_getElem? fun j => ?_
        rw [List.getElem?_map]
        cases hj : as[j]? with
        | none =>
          have := List.getElem?_eq_none_iff.mp hj
          exact (List.getElem?_eq_none (by omega)).symm
        | some b =>
          obtain ⟨j', b', e, _, _, eb, hj', he, hk1, _⟩ := at_ (.ref b) (List.mem_map_of_mem (List.mem_of_getElem? hj))
          cases eb
          have ej : j = j' := (List.getElem?_inj (List.getElem?_eq_some_iff.mp hj).1 nd).mp (hj.trans hj'.symm)
          rw [ej, he]
          exact congrArg some hk1
      have hsrt : (zs.map fun b => kvs.getD (as.idxOf b) (0, 0)).Pairwise (fun x y => SrtO.lexB y x = false) := by
        have h1 : List.Pairwise (fun x y => SrtO.lexB (kk (backV y)) (kk (backV x)) = false) (zs.map Value.ref) := h1
        exact List.pairwise_map.mpr (List.pairwise_map.mp h1)
      -- behind the sort
      have kF : ∀ b o, b ≠ h'.objs.size → h2.get? b = some o → (sortedHeap h2 h'.objs.size (as.map Value.ref) (zs.map Value.ref).toArray).get? b = some o := fun b o hb e => (PyProof.Rows.sortedHeap_old hb (Heap.lt_size e)).trans e
      have kS : ∀ b o, s.heap.get? b = some o → (sortedHeap h2 h'.objs.size (as.map Value.ref) (zs.map Value.ref).toArray).get? b = some o := fun b o e => kF b o (ne0 _ _ (hk b o e)) (kb b o e)
      obtain ⟨eF, heF⟩ := PyProof.Rows.sortedHeap_at (vs := as.map Value.ref) (out := (zs.map Value.ref).toArray) hob
      have I1 : Inv X pins σ H { s with heap := sortedHeap h2 h'.objs.size (as.map Value.ref) (zs.map Value.ref).toArray, toks := tk } := I.kept (t' := tk) kS
      have hn0 : H h'.objs.size = none := I.hok.fresh hlt
      have hlen : (zs.map V.ref).length ≤ sizeLine := by
        rw [List.length_map, pz.length_eq, lak, lkk]
        omega
      have I2 : Inv X pins σ (upd H h'.objs.size (.lst (zs.map V.ref))) { s with heap := sortedHeap h2 h'.objs.size (as.map Value.ref) (zs.map Value.ref).toArray, toks := tk } :=
        I1.take (h' := sortedHeap h2 h'.objs.size (as.map Value.ref) (zs.map Value.ref).toArray) (t' := tk) (fun b ob _ e => e) (I.fpOk hlt hn0) ⟨hlen, zs.map Value.ref, eF, LiI.vals_refs zs, heF⟩
      obtain ⟨H2, I3, g, qt⟩ := L2.DX.takeT (P := fun b vs => ∃ (j : Nat) (e : Int × Int), as[j]? = some b ∧ kvs.getD (as.idxOf b) (0, 0) = e ∧ vs = [.int e.1, .int e.2]) I as _ I2 nd fun b hb => by
        obtain ⟨j, b', e, t1, t2, eb, hj, he, hk1, hg⟩ := at_ (.ref b) (List.mem_map_of_mem hb)
        cases eb
        have hbl : s.heap.objs.size ≤ b := Nat.le_of_lt (hG.above b hb)
        refine ⟨hbl, ?_, [.int e.1, .int e.2], ⟨j, e, hj, hk1, rfl⟩, fun H3 => ⟨(by rw [sizeLine_eq]; show 2 ≤ 16777216; omega), [Value.int e.1 t1, Value.int e.2 t2], .cons ⟨t1, rfl⟩ (.cons ⟨t2, rfl⟩ .nil), ⟨_, kF _ _ (ne0 _ _ hg) (ka _ _ hg), rfl, 0, rfl⟩⟩⟩
        rw [upd_ne (ne0 _ _ hg)]
        exact I.hok.fresh hbl
      have gr : ∀ b o, H b = some o → H2 b = some o := fun b o e => g b o (by rw [upd_ne (ne_of_none e hn0)]; exact e)
      have hpaired : ∀ l : List Addr, (∀ b ∈ l, b ∈ as) → Paired (fun (t : Addr) (q : Int × Int) => H2 t = some (.tup [.int q.1, .int q.2])) l (l.map fun b => kvs.getD (as.idxOf b) (0, 0)) := by
        intro l
        induction l with
        | nil => exact fun _ => .nil
        | cons b l ih =>
          intro hl
          refine .cons ?_ (ih fun c hc => hl c (List.mem_cons_of_mem _ hc))
          obtain ⟨vs', ⟨_, e, _, e2, ev⟩, hH⟩ := qt b (hl b (List.mem_cons_self ..))
          rw [hH, ev, ← e2]
      exact ⟨.ref h'.objs.size, H2, I3, rfl, q H2 h'.objs.size zs _ gr hn0 (g _ _ upd_same) (hpaired zs fun b hb => pz.mem_iff.mp hb) hps hsrt⟩
  exact hsort
theorem k_inD {K : PySem.W.Frag} {X : Cx} (hk : X.K = K) (hu : X.A.units + 65 < cLine) : OpR X (compareOp .In) (rInD K) := hk ▸ op_inD hu
theorem k_ninD {K : PySem.W.Frag} {X : Cx} (hk : X.K = K) (hu : X.A.units + 65 < cLine) : OpR X (compareOp .NotIn) (rNotInD K) := hk ▸ op_notInD hu
theorem k_sortedPO {K : PySem.W.Frag} {X : Cx} (hk : X.K = K) : CallR X (.builtin "sorted") (rSortedPO K) := hk ▸ cr_sortedPO
theorem hu65_of {k : Nat} {A : Around} (r : Room k A) : A.units + 65 < cLine := by have := r.un; omega
/-! pairs of ints at addresses -/
def PrT (H : Hp) (ts : List Addr) (ps : List (Int × Int)) : Prop := Paired (fun (t : Addr) (q : Int × Int) => H t = some (.tup [.int q.1, .int q.2])) ts ps
theorem PrT.keep {H H' : Hp} {ts : List Addr} {ps : List (Int × Int)} (t : TK H H') (h : PrT H ts ps) : PrT H' ts ps := by
  induction h with
  | nil => exact .nil
  | cons r _ ih => exact .cons (t _ _ r) ih
theorem Pers.prT {ts : List Addr} {ps : List (Int × Int)} : Pers fun H => PrT H ts ps := fun _ _ t h => h.keep t
theorem PrT.len {H : Hp} {ts : List Addr} {ps : List (Int × Int)} (h : PrT H ts ps) : ts.length = ps.length := Paired.length h
theorem PrT.snoc {H : Hp} {ts : List Addr} {ps : List (Int × Int)} (h : PrT H ts ps) {t : Addr} {q : Int × Int} (k : H t = some (.tup [.int q.1, .int q.2])) : PrT H (ts ++ [t]) (ps ++ [q]) := by
  induction h with
  | nil => exact .cons k .nil
  | cons r _ ih => exact .cons r ih
theorem PrT.at {H : Hp} {ts : List Addr} {ps : List (Int × Int)} (h : PrT H ts ps) : ∀ {i : Nat} {t : Addr}, ts[i]? = some t → ∃ q, ps[i]? = some q ∧ H t = some (.tup [.int q.1, .int q.2]) := by
  induction h with
  | nil => intro i t e; cases e
  | cons r _ ih =>
    intro i t e
    cases i with
    | zero =>
      obtain rfl := Option.some.inj e
      exact ⟨_, rfl, r⟩
    | succ i => exact ih e
def prD (q : Int × Int) : PyData := .tuple [.int q.1, .int q.2]
theorem PrT.dt {K : PySem.W.Frag} {H : Hp} {ts : List Addr} {ps : List (Int × Int)} (h : PrT H ts ps) : DtAll K H (ts.map V.ref) (ps.map prD) := by
  induction h with
  | nil => exact .nil
  | cons r _ ih => exact .cons (.tup (.inl r) (.cons (.int _) (.cons (.int _) .nil))) ih
theorem canLay_prs : ∀ ps : List (Int × Int), PyData.canLayAll0 (ps.map prD) = true
  | [] => rfl
  | p :: ps => by
    show (PyData.canLay0 (prD p) && PyData.canLayAll0 (ps.map prD)) = true
    rw [canLay_prs ps]
    rfl
theorem depth_prs : ∀ ps : List (Int × Int), PyData.depthAll (ps.map prD) ≤ 2
  | [] => Nat.zero_le _
  | p :: ps => by
    show max (PyData.depth (prD p)) (PyData.depthAll (ps.map prD)) ≤ 2
    have := depth_prs ps
    have h2 : PyData.depth (prD p) ≤ 2 := by
      show PyData.depth (.tuple [.int p.1, .int p.2]) ≤ 2
      simp [PyData.depth, PyData.depthAll]
    omega
theorem shaped_prs (ps : List (Int × Int)) : SeqAt.shaped (.list (ps.map prD)) = true := by
  unfold SeqAt.shaped
  rw [Bool.and_eq_true]
  refine ⟨canLay_prs ps, decide_eq_true ?_⟩
  have := depth_prs ps
  show PyData.depthAll (ps.map prD) + 1 ≤ 64
  omega
theorem shaped_pr (q : Int × Int) : SeqAt.shaped (prD q) = true := rfl
theorem eqv_pr (p q : Int × Int) : PyData.eqv (prD p) (prD q) = decide (p = q) := by
  obtain ⟨a, b⟩ := p
  obtain ⟨c, d⟩ := q
  have : PyData.eqv (prD (a, b)) (prD (c, d)) = ((a == c) && (b == d)) := by
    simp [prD, PyData.eqv, PyData.eqvAll]
  rw [this, Bool.eq_iff_iff]
  simp
theorem any_pr (ps : List (Int × Int)) (q : Int × Int) : ((ps.map prD).any fun z => PyData.eqv z (prD q)) = decide (q ∈ ps) := by
  rw [Bool.eq_iff_iff, List.any_eq_true, decide_eq_true_iff]
  constructor
  · rintro ⟨z, hz, e⟩
    obtain ⟨p, hp, rfl⟩ := List.mem_map.mp hz
    rw [eqv_pr, decide_eq_true_iff] at e
    rw [← e]; exact hp
  · intro h
    exact ⟨prD q, List.mem_map_of_mem h, by rw [eqv_pr, decide_eq_true rfl]⟩
theorem eqv_prs : ∀ ps : List (Int × Int), PyData.eqvAll (ps.map prD) (ps.map prD) = true
  | [] => rfl
  | p :: ps => by
    show (PyData.eqv (prD p) (prD p) && PyData.eqvAll (ps.map prD) (ps.map prD)) = true
    rw [eqv_prs ps, eqv_pr, decide_eq_true rfl]
    rfl
theorem eqv_lprs (ps : List (Int × Int)) : PyData.eqv (.list (ps.map prD)) (.list (ps.map prD)) = true := by
  have := eqv_prs ps
  unfold PyData.eqv
  simpa using this
/-! the places of a comprehension's own names -/
theorem wipe_get (σ : L2.St) : ∀ (vs : List Nat) (j : Nat), (wipe σ vs)[j]? = if j ∈ vs then (σ[j]?).map (fun _ => none) else σ[j]?
  | [], j => by simp [wipe]
  | v :: vs, j => by
    unfold wipe
    rw [List.getElem?_set, wipe_length, wipe_get σ vs j]
    by_cases e : v = j
    · subst e
      rw [if_pos rfl, if_pos (List.mem_cons_self ..)]
      by_cases h : v < σ.length
      · rw [if_pos h, List.getElem?_eq_getElem h]; rfl
      · rw [if_neg h, List.getElem?_eq_none (by omega)]; rfl
    · rw [if_neg e]
      by_cases m : j ∈ vs
      · rw [if_pos m, if_pos (List.mem_cons_of_mem _ m)]
      · rw [if_neg m, if_neg]
        intro z
        rcases List.mem_cons.mp z with z | z
        · exact e z.symm
        · exact m z
theorem wipe_set_in {σ : L2.St} {vs : List Nat} {i : Nat} {v : Option V} (h : i ∈ vs) : wipe (σ.set i v) vs = wipe σ vs := by
  refine List.ext_getElem? fun j => ?_
  rw [wipe_get, wipe_get]
  by_cases m : j ∈ vs
  · rw [if_pos m, if_pos m, List.getElem?_set]
    by_cases e : i = j
    · subst e
      rw [if_pos rfl]
      by_cases hl : i < σ.length
      · rw [if_pos hl, List.getElem?_eq_getElem hl]; rfl
      · rw [if_neg hl, List.getElem?_eq_none (by omega)]
    · rw [if_neg e]
  · rw [if_neg m, if_neg m, List.getElem?_set_ne (fun e => m (by rw [← e]; exact h))]
theorem wipe_wipe (σ : L2.St) (vs : List Nat) : wipe (wipe σ vs) vs = wipe σ vs := by
  refine List.ext_getElem? fun j => ?_
  rw [wipe_get, wipe_get]
  by_cases m : j ∈ vs
  · rw [if_pos m, if_pos m, Option.map_map]
    cases σ[j]? <;> rfl
  · rw [if_neg m, if_neg m]
theorem wipe4 {σ : L2.St} {vs : List Nat} {a b c d : Nat} {x y z u : Option V} (ha : a ∈ vs) (hb : b ∈ vs) (hc : c ∈ vs) (hd : d ∈ vs) : wipe (((((wipe σ vs).set a x).set b y).set c z).set d u) vs = wipe σ vs := by
  rw [wipe_set_in hd, wipe_set_in hc, wipe_set_in hb, wipe_set_in ha, wipe_wipe]
theorem wipe3 {σ : L2.St} {vs : List Nat} {a b c : Nat} {x y z : Option V} (ha : a ∈ vs) (hb : b ∈ vs) (hc : c ∈ vs) : wipe ((((wipe σ vs).set a x).set b y).set c z) vs = wipe σ vs := by
  rw [wipe_set_in hc, wipe_set_in hb, wipe_set_in ha, wipe_wipe]
theorem wipe2 {σ : L2.St} {vs : List Nat} {a b : Nat} {x y : Option V} (ha : a ∈ vs) (hb : b ∈ vs) : wipe (((wipe σ vs).set a x).set b y) vs = wipe σ vs := by
  rw [wipe_set_in hb, wipe_set_in ha, wipe_wipe]
theorem wipe1 {σ : L2.St} {vs : List Nat} {a : Nat} {x : Option V} (ha : a ∈ vs) : wipe ((wipe σ vs).set a x) vs = wipe σ vs := by
  rw [wipe_set_in ha, wipe_wipe]
end Fb

set_option maxHeartbeats 4000000
/-! own exceptions: made with keywords, their base's __init__, raising defs -/
namespace Fb
open PySem PySem.W PySem.Calls PyProof.Rows PySem.HandSPX
/-! ### an own class under ValueError, called with keywords alone -/
abbrev nVE : String := "ValueError.__new__"
abbrev fVE : ExcBaseFacts "ValueError" "ValueError.__new__" "ValueError.__init__" veTail := PySem.F.excBase_ValueError
/-- the class object at C; b: its bases' order -/
structure VeCls (hp : Heap) (C : Addr) (b : List Value) : Prop where
  at_ : ∃ (x1 x2 : Str) (x3 : Addr) (x4 : List Value) (x5 : Bool) (x6 : List Str) (x7 : List Value) (x8 : Bool) (x9 : Option Bool) (y0 : Option Addr) (y1 y2 y3 y4 y5 : Option Value), hp.get? C = some (excClassObj x1 x2 C x3 x4 b x5 x6 x7 x8 x9 y0 y1 y2 y3 y4 y5 nVE)
  ve : refsVE b = true
/-- what stands in the order of C's bases -/
theorem VeCls.has {hp : Heap} {C : Addr} {b : List Value} (c : VeCls hp C b) (n : String) {r : Bool} (e : veTail.contains (.type n) = r) : (Value.ref C :: b).contains (.type n) = r := by
  have h1 := refsVE_contains n b c.ve
  rw [List.contains_cons, h1, e]
  rfl
section
variable {hp : Heap} {C : Addr} {b : List Value} {ks : List (Str × Value)} {gs : Array GenState} {dr : Drawn} {tk : Nat} {os : OsState}
theorem kw_checked (c : VeCls hp C b) {M : Model} {A : Around} {E : Value → Shared → Prop} {G : Unit → Shared → Prop} (done : G () ⟨hp, gs, dr, tk, os⟩) : wpAny M A (checkBuiltinCall nVE ⟨[.ref C], ks⟩) G E ⟨hp, gs, dr, tk, os⟩ := by
  have under := c.has "ValueError" (r := true) (by decide +kernel)
  have nostar := fVE.noStar
  obtain ⟨_, _, _, _, _, _, _, _, _, _, _, _, _, _, _, here⟩ := c.at_
  simp only [checkBuiltinCall, fVE.newKind, fVE.newSplit, fVE.newRow]
  repeat first
    | refine wpAny_loadPart_at here ?_
    | (refine wpAny_isSubtype_exc here ?_
       rw [under])
    | refine wpAny_staticBase_exc here ?_
    | refine wpAny_madeBy_exc here ?_
    | simp only [bne_self_eq_false, Bool.false_eq_true, if_false]
    | wp_step
  exact done
variable {pg : Program} {wd : World} {A : Around}
/-- the heap behind __new__: a tuple of no arguments, the exception -/
abbrev madeKw (hp : Heap) (C : Addr) : Heap := (hp.push (PySem.W.kdv_tup [])).push (excO C hp.objs.size)
theorem kw_new (c : VeCls hp C b) {G : Result → Shared → Prop} (done : G (.ok (.ret (.ref (hp.objs.size + 1)))) ⟨madeKw hp C, gs, dr, tk, os⟩) : codeAny (model pg wd) A (.builtin nVE ⟨[.ref C], ks⟩) G ⟨hp, gs, dr, tk, os⟩ := by
  have under := c.has "ValueError" (r := true) (by decide +kernel)
  have noA := c.has "AttributeError" (r := false) (by decide +kernel)
  have noN := c.has "NameError" (r := false) (by decide +kernel)
  have ends := fVE.ends
  obtain ⟨_, _, _, _, _, _, _, _, _, _, _, _, _, _, _, here⟩ := c.at_
  refine codeAny_builtinAt fVE.entry ?_
  unfold Builtin.«BaseException.__new__»
  refine PySem.wpAt_bind ?_
  show PySem.wpAt _ _ _ (stack >>= _) _ _ _
  refine PySem.wpAt_bind (PySem.wpAt_stack fun _ _ => PySem.wpAt_of_wpAny ?_)
  wp_walk
  refine PySem.wpAt_of_wpAny ?_
  rw [fVE.owner]
  repeat first
    | with_reducible refine wpAny_madeHere_exc fVE.canon here ?_
    | with_reducible refine wpAny_loadPart_at here ?_
    | (with_reducible refine wpAny_isSubtype_exc here ?_
       first | rw [under] | rw [noA] | rw [noN])
    | wp_step
  show G _ _
  rw [Heap.size_push]
  exact done
theorem kw_typeCall (c : VeCls hp C b) {f : Addr} {E : Value → Shared → Prop} {G : Fin → Shared → Prop} (ini : PySem.W.Looks (model pg wd) hp (typeLookup (.ref C) "__init__") (some (.ref f))) (bnd : ∀ self, PySem.W.Looks (model pg wd) hp (bindSpecial (.ref f) self) (.ref f, [self]))
    (run : codeAny (model pg wd) A (.call (.ref f) ⟨[.ref (hp.objs.size + 1)], ks⟩) (fun r s' => match r with | .ok (.ret v) => v = .none ∧ G (.done (.ret (.ref (hp.objs.size + 1)))) s' | .ok _ => False | .error e => E e s') ⟨madeKw hp C, gs, dr, tk, os⟩) :
    wpAny (model pg wd) A (Builtin.«type.__call__» ⟨[.ref C], ks⟩) G E ⟨hp, gs, dr, tk, os⟩ := by
  obtain ⟨_, _, _, _, _, _, _, _, _, _, _, _, _, _, _, here⟩ := id c.at_
  repeat first
    | with_reducible refine wpAny_loadPart_at here ?_
    | with_reducible refine wpAny_madeBy_exc here ?_
    | wp_step
  refine codeAny_call_builtin_code (Code.quiet_builtin _ fVE.quiet) (kw_checked c (kw_new c ?_))
  show wpAny _ _ _ _ _ _
  have more : ∀ b o, hp.get? b = some o → (madeKw hp C).get? b = some o := fun _ _ e => Heap.get?_push_of_some _ (Heap.get?_push_of_some _ e)
  have later := more _ _ here
  have exc : (madeKw hp C).get? (hp.objs.size + 1) = some (excO C hp.objs.size) := by heap_get
  have self : (Value.ref C :: b).contains (.ref C) = true := by simp
  have look := ini.keeps more
  have look2 := (bnd (.ref (hp.objs.size + 1))).keeps more
  unfold isInstance
  repeat first
    | with_reducible refine wpAny_loadPart_at exc ?_
    | (with_reducible refine wpAny_isSubtype_exc later ?_
       rw [self])
    | wp_step
  show wpAny _ _ (typeLookup (.ref C) _) _ _ _
  refine look.at (wpAny_holding (wpAny_bind (look2.at (wpAny_bind (wpAny_call (codeAny_mono run fun r s' z => ?_))))))
  rcases r with e | (v | _ | _ | _) <;> first | exact z | exact z.elim | skip
  obtain ⟨rfl, z⟩ := z
  first
    | exact wpAny_pure (wpAny_pure z)
    | (wp_walk; exact z)
theorem kw_call (c : VeCls hp C b) {f : Addr} {G : Result → Shared → Prop} (ini : PySem.W.Looks (model pg wd) hp (typeLookup (.ref C) "__init__") (some (.ref f))) (bnd : ∀ self, PySem.W.Looks (model pg wd) hp (bindSpecial (.ref f) self) (.ref f, [self]))
    (run : codeAny (model pg wd) (A.under (.builtin "type.__call__" ⟨[.ref C], ks⟩)) (.call (.ref f) ⟨[.ref (hp.objs.size + 1)], ks⟩) (PySem.W.InitBack (hp.objs.size + 1) G) ⟨madeKw hp C, gs, dr, tk, os⟩) : codeAny (model pg wd) A (.call (.ref C) ⟨[], ks⟩) G ⟨hp, gs, dr, tk, os⟩ := by
  obtain ⟨_, _, _, _, _, _, _, _, _, _, _, _, _, _, _, here⟩ := id c.at_
  have a1 := tc_lookup
  have a2 := tc_bind (.ref C)
  have a3 : (⟨hp, gs, dr, tk, os⟩ : Shared).TypeIs (.ref C) "type" := ⟨_, here, rfl⟩
  refine codeAny_of_tree ?_
  show wpAny _ _ (callAny (.ref C) _) _ _ _
  repeat any_goals first | assumption | with_reducible refine wpAny_loadPart_at here ?_ | wp_step
  refine ⟨rfl, codeAny_call_builtin_at (Code.quiet_builtin _ (by decide +kernel)) entry_typeCall (wpAny_check_type_call_sub here (kw_typeCall c ini bnd (codeAny_mono run fun r s' z => ?_)))⟩
  rcases r with e | (v | _ | _ | _) <;> exact z
end
end Fb
namespace L2
open PySem PySem.Spec PyProof.Rows
/-- C(k = v, ..), C's own __init__ keeping sp -/
def tMkOK (C : Addr) (sp : Sp) (gV : List V → List V → List V) (m : Nat) (tk : TA) : St → Hp → XK → Prop := fun σ H Q => tk σ H fun zs H1 => zs.length = m ∧ ∀ a, H1 a = none → sp (gV [.ref a] zs) (upd H1 a (exo a C none))
  (fun v H2 => v = .non ∧ ∃ (d : Addr) (fs : List (Str × V)), H2 a = some (exo a C (some d)) ∧ H2 d = some (exd d fs) ∧ H1 d = none ∧ Q (.ref C) (some d) (upd (del H2 a) d (.xd fs))) (fun _ _ _ => False)
section
variable {X : Cx} {CX : CXT} {k : Nat} {C fI : Addr} {fd : FuncData} {ps ks : List Str} {sp : Sp} {x : Str} {p pos : Pos} {kws : List Keyword} {tk : TA} {g : List Value → List Value → List Value} {gV : List V → List V → List V}
theorem pmk_oexK (T : OexC X.K C) (iC : PySem.W.findIn X.K (.ref C) "__init__" = some (some (.ref fI))) (tI : PySem.W.typeIn X.K (.ref fI) = some (.type "function"))
    (F1 : FnOk X.prog X.w X.K X.mg X.base CX k fI fd ps sp) (hr : Room (k + 1) X.A) (hb : KBn X.K fd ps 1 ks g gV) (hx : Passes CX X (fun _ _ _ => False)) (hg : Gl X x) (hm : X.mg x = some (.ref C)) (hkw : PK X kws tk)
    (hall : (backToKw pos (keywordEach kws X.env)).all (·.1.isSome) = true := by rfl) (hks : (backToKw pos (keywordEach kws X.env)).filterMap (·.1) = ks := by rfl) (hdb : (x == ("__debug__" : Str)) = false := by decide)
    (hpl : ((backTo pos (starEach [] X.env)).any (·.1) || (backToKw pos (keywordEach kws X.env)).any (·.1.isNone)) = false := by rfl) :
    PMk X (.Call (.Name x p) [] kws pos) (tMkOK C sp gV ks.length tk) := by
  intro pins s σ H Q I h
  obtain ⟨nm, q, N, bs, bm, sn, sub, ab, col, dd, k0, k1, k2, k3, k5, hC, hbm⟩ := T.cls
  refine wpAny_Call_Name_kw (ld_glob I hg hm ?_ hdb)
  refine PySem.W.callWith_KW0 (h₀ := X.base) I.ok.mod.kin T.kC hall ?_ hpl
  refine thn (hkw.run pos pins s σ H _ I h) fun ws s1 hh => ?_
  obtain ⟨zs, H1, I1, rz, l2, q1⟩ := hh
  refine ⟨I1.kIn, ?_⟩
  rw [hks]
  show wpAny _ _ (call (.ref C) [] (ks.zip ws)) _ _ _
  obtain ⟨hp, g', dr, tk', os⟩ := s1
  have hsz : hp.objs.size ≤ hp.objs.size + 1 := Nat.le_succ _
  have hn : H1 (hp.objs.size + 1) = none := I1.hok.fresh hsz
  have hq := q1 (hp.objs.size + 1) hn
  have kk : ∀ b o, hp.get? b = some o → (Fb.madeKw hp C).get? b = some o := fun b o e => Heap.get?_push_of_some _ (Heap.get?_push_of_some _ e)
  have hget : (Fb.madeKw hp C).get? (hp.objs.size + 1) = some (PySem.HandSPX.excO C hp.objs.size) := by heap_get
  have I2 : Inv X pins σ (upd H1 (hp.objs.size + 1) (exo (hp.objs.size + 1) C none)) ⟨Fb.madeKw hp C, g', dr, tk', os⟩ := I1.laid (t' := tk') (a := hp.objs.size + 1) (o := exo (hp.objs.size + 1) C none) (h' := Fb.madeKw hp C) kk hsz (exo_ok hget)
  have r2 := hb.rel (show Vals [V.ref (hp.objs.size + 1)] [Value.ref (hp.objs.size + 1)] from .cons rfl .nil) rz
  refine wpAny_call (Fb.kw_call (b := bm) ⟨⟨nm, q, N, bs, true, sn, sub, ab, col, dd, k0, k1, k2, k3, k5, I1.kIn _ _ hC⟩, hbm⟩ (PySem.W.looks_findIn I1.kIn iC) (fun self => PySem.W.bind_fn I1.kIn self tI)
    (codeAny_mono (F1.run _ X.stack _ _ ⟨[Value.ref (hp.objs.size + 1)], ks.zip ws⟩ (g [Value.ref (hp.objs.size + 1)] ws) _ _ (fun _ _ _ => False) (hr.make C [] (ks.zip ws)) (I2.env0.make C [] (ks.zip ws)) (hb.to _ [Value.ref (hp.objs.size + 1)] ws I2.kIn rfl (rz.length.symm.trans l2)) r2 hq) fun r s' hq' => ?_))
  cases r with
  | error er => exact hx pins σ _ _ er s' I2 hq'
  | ok fl =>
    cases fl with
    | ret u =>
      obtain ⟨v, H2, os2, bare2, un2, hok2, rv, ev, d, fs, ea, ed, hd1, q2⟩ := hq'
      subst ev
      obtain ⟨h2, g2, d2, t2, os'⟩ := s'
      exact ⟨rv, mk_end (raises_own T.exC T.tyC) I1 hsz kk un2 hok2 os2 bare2 ea ed hd1 q2⟩
    | next => exact False.elim hq'
    | brk => exact False.elim hq'
    | cont => exact False.elim hq'
/-- D.__init__(self, ..), D an own class that takes ValueError's -/
theorem pe_feinit {X : Cx} {D : Addr} {x : Str} {e : Expr} {es : List Expr} {ta : TA} {p1 p2 pos : Pos} {pl : Sem Bool} (hg : Gl X x) (hm : X.mg x = some (.ref D)) (hsg : PySem.W.specialIn X.K (.ref D) "__getattribute__" = some (some (.builtin "type.__getattribute__")))
    (hrd : PySem.W.readsIn X.K D (.type "type") = true) (vV : PySem.W.findCls X.K (.ref D) (.type "type") "__init__" = some (.val (.builtin "ValueError.__init__"))) (ha : PA X (e :: es) ta)
    (hc : eval (.Call (.Attribute (.Name x p1) "__init__" p2) (e :: es) [] pos) X.env = (do
      let ov ← eval (.Name x p1) X.env
      standAt p2.atName
      let (f, first) ← holding [ov] (getMethod ov "__init__" pl)
      callWith pos f first (backTo pos (starEach (e :: es) X.env)) (backToKw pos (keywordEach [] X.env))) := by rfl)
    (hdb : (x == ("__debug__" : Str)) = false := by decide) (he : starEach (e :: es) X.env = (false, eval e X.env) :: starEach es X.env := by rfl) (hpl : (backTo pos (starEach es X.env)).any (·.1) = false := by rfl) :
    PE X (.Call (.Attribute (.Name x p1) "__init__" p2) (e :: es) [] pos) (tVeI X.K ta) := by
  refine ⟨fun pins s σ H Q I h => ?_⟩
  refine PySem.W.methodCall_KW (ld_glob I hg hm ?_ hdb) hc
  refine PySem.W.method_cls I.kIn hsg (PySem.W.cls_value I.kIn hrd vV (by decide +kernel) ?_)
  show wpAny _ _ (callWith pos (Value.builtin "ValueError.__init__") [] (backTo pos (starEach (e :: es) X.env)) []) _ _ _
  refine PyProof.Rows.callWith_method1 (thn (ha.run pos pins _ σ H _ (I.tok _) h) fun us s1 ⟨vs, H1, I1, r1, a, C, ws, ev, hl, T, ea, q⟩ => ?_) he hpl
  subst ev
  cases r1 with
  | @cons _ u0 _ ur ra rw' =>
    obtain rfl : u0 = Value.ref a := ra
    have hlen : ur.length ≤ sizeLine := by
      rw [← Paired.length rw', sizeLine_eq]
      omega
    exact oinit_ok T I1 ea hlen fun s' J => ⟨.non, H1, J, rfl, q⟩
end
end L2

set_option maxHeartbeats 4000000
/-! own exceptions' facts, all at once -/
namespace Fb
open PySem PySem.Spec PyProof.Rows L2 PySem.HandSPX
/-- what each own exception's class says (ini: it has an __init__ of its own) -/
def errOne (K : PySem.W.Frag) (C : Addr) : Bool :=
  PySem.W.keepIn K (.ref C) && decide (PySem.W.subIn K (.ref C) (.type "BaseException") = some true) && decide (PySem.W.typeIn K (.ref C) = some (.type "type")) &&
  decide (PySem.W.findIn K (.ref C) "__getattribute__" = some (some (.builtin "BaseException.__getattribute__"))) && decide (PySem.W.findIn K (.ref C) "__getattr__" = some none) && PySem.W.hasDictIn K C &&
  decide (PySem.W.findIn K (.ref C) "__class__" = some (some (.builtin "object.__class__"))) && decide (PySem.W.specialIn K (.builtin "object.__class__") "__get__" = some (some (.builtin "getset_descriptor.__get__"))) &&
  decide (PySem.W.takesIn K (.builtin "object.__class__") = some true) && decide (PySem.W.mroIn K C (.type "object") = some true)
/-- which is which -/
def errTab (K : PySem.W.Frag) (F : Addr) (Cs : List Addr) : Bool :=
  Cs.all fun D => errOne K D && decide (PySem.W.kitOne K (.ref D) (.type "ValueError") = some true) && decide (PySem.W.exmOne K (.ref D) (.ref F) = some true) && Cs.all fun C => decide (PySem.W.kitOne K (.ref D) (.ref C) = some (decide (D = C)))
def errOwn (K : PySem.W.Frag) (Cs : List Addr) : Bool := Cs.all fun C => PySem.W.excIn K C veTail "ValueError.__new__"
inductive ErrN (mg : Str → Option Value) : List Str → List Addr → Prop
  | nil : ErrN mg [] []
  | cons {x : Str} {C : Addr} {xs : List Str} {Cs : List Addr} (h : mg x = some (.ref C)) (r : ErrN mg xs Cs) : ErrN mg (x :: xs) (C :: Cs)
theorem ErrN.uncons {mg : Str → Option Value} {x : Str} {xs : List Str} {Cs : List Addr} (h : ErrN mg (x :: xs) Cs) : ∃ C Cs', Cs = C :: Cs' ∧ mg x = some (.ref C) ∧ ErrN mg xs Cs' := by
  cases h with
  | cons h r => exact ⟨_, _, rfl, h, r⟩
theorem ErrN.cons' {K : PySem.W.Frag} {h : Heap} {mg : Str → Option Value} {x : Str} {C : Addr} {xs : List Str} {Cs : List Addr} (X : K.In h) (G : h.Ns mainGlobals mg) (a : PySem.W.nsIn K mainGlobals x = some (some (.ref C))) (r : ErrN mg xs Cs) : ErrN mg (x :: xs) (C :: Cs) := .cons (PySem.W.mg_of X G a) r
/-- F: the base; own: those without an __init__; kw: those with one -/
structure Errs (K : PySem.W.Frag) (mg : Str → Option Value) (fe : Str) (own kw : List Str) : Prop where
  ex : ∃ (F : Addr) (Os Ks : List Addr), mg fe = some (.ref F) ∧ ErrN mg own Os ∧ ErrN mg kw Ks ∧ errTab K F (Os ++ Ks) = true ∧ errOwn K Os = true
theorem Errs.mk' {K : PySem.W.Frag} {h : Heap} {mg : Str → Option Value} {fe : Str} {own kw : List Str} {F : Addr} {Os Ks : List Addr} (X : K.In h) (G : h.Ns mainGlobals mg) (f : PySem.W.nsIn K mainGlobals fe = some (some (.ref F))) (o : ErrN mg own Os) (k : ErrN mg kw Ks) (t : errTab K F (Os ++ Ks) = true) (e : errOwn K Os = true) : Errs K mg fe own kw :=
  ⟨F, Os, Ks, PySem.W.mg_of X G f, o, k, t, e⟩
/-- an own class under ValueError with an __init__ of its own -/
def oexB (K : PySem.W.Frag) (C : Addr) : Bool := match K.lookup C with
  | some ⟨.type "type", _, .cls cd, sl⟩ => (match cd.mro, sl.toList with
    | .ref C' :: bm, [_, _, _, _, some (.builtin n), _] => C' == C && n == "ValueError.__new__" && !cd.hasDel && cd.hasDict && refsVE bm
    | _, _ => false)
  | _ => false
theorem oexB_cls {K : PySem.W.Frag} {C : Addr} (q : oexB K C = true) : ∃ nm q N bs bm sn sub ab col dd k0 k1 k2 k3 k5, K.lookup C = some (excClassObj nm q C N bs bm true sn sub ab col dd k0 k1 k2 k3 k5 "ValueError.__new__") ∧ refsVE bm = true := by
  unfold oexB at q
  split at q
  · rename_i dd cd sl ho
    split at q
    · rename_i C' bm k0 k1 k2 k3 n k5 hm hs
      simp only [Bool.and_eq_true, beq_iff_eq, Bool.not_eq_true'] at q
      obtain ⟨⟨⟨⟨rfl, rfl⟩, hdel⟩, hdi⟩, ht⟩ := q
      obtain ⟨nm, bs, mro, ns, qn, hd, sn, sub, ab, col, del⟩ := cd
      dsimp only at hm hdel hdi
      subst hm hdel hdi
      have hsl : sl = #[k0, k1, k2, k3, some (.builtin "ValueError.__new__"), k5] := by
        obtain ⟨l⟩ := sl
        simp only at hs
        rw [hs]
      subst hsl
      exact ⟨nm, qn, ns, bs, bm, sn, sub, ab, col, dd, k0, k1, k2, k3, k5, ho, ht⟩
    · cases q
  · cases q
/-- all own exceptions: F the base; Cs in the order of errNames -/
def errNames : List Str := ["InvalidNetwork", "InvalidState", "InvalidCount", "UnknownStation", "UnknownSeat", "UnknownPort", "UnknownPassenger", "EmptyBoat", "InvalidRates", "InvalidLengths", "InvalidPassengers", "TooManyCandidates", "Contradiction"]
structure ErrT (K : PySem.W.Frag) (mg : Str → Option Value) (F : Addr) (Cs : List Addr) : Prop where
  f : mg "FerryError" = some (.ref F)
  n : ErrN mg errNames Cs
  t : errTab K F Cs = true
  nd : Cs.Nodup
/-- the class at C may be made with keywords: its __init__ is at f -/
def oexAll (K : PySem.W.Frag) (C f : Addr) (fs : List Str) : Bool := oexB K C && decide (PySem.W.findIn K (.ref C) "__setattr__" = some (some (.builtin "object.__setattr__"))) && decide (PySem.W.subIn K (.ref C) (.type "BaseException") = some true) &&
  decide (PySem.W.typeIn K (.ref C) = some (.type "type")) && PySem.W.keepIn K (.ref C) && decide (PySem.W.findIn K (.ref C) "__init__" = some (some (.ref f))) && decide (PySem.W.typeIn K (.ref f) = some (.type "function")) &&
  decide (PySem.W.findIn K (.ref C) "__getattribute__" = some (some (.builtin "BaseException.__getattribute__"))) && decide (PySem.W.findIn K (.ref C) "__getattr__" = some none) && PySem.W.hasDictIn K C && fs.all fun x => decide (PySem.W.findIn K (.ref C) x = some none)
structure OexI (K : PySem.W.Frag) (C f : Addr) (fs : List Str) : Prop where
  oex : OexC K C
  ini : PySem.W.findIn K (.ref C) "__init__" = some (some (.ref f))
  fn : PySem.W.typeIn K (.ref f) = some (.type "function")
  xf : XfC K C
  no : ∀ x ∈ fs, PySem.W.findIn K (.ref C) x = some none
theorem oexAll_ok {K : PySem.W.Frag} {C f : Addr} {fs : List Str} (h : oexAll K C f fs = true) : OexI K C f fs := by
  unfold oexAll at h
  simp only [Bool.and_eq_true, decide_eq_true_eq, List.all_eq_true] at h
  obtain ⟨⟨⟨⟨⟨⟨⟨⟨⟨⟨h1, h2⟩, h3⟩, h4⟩, h5⟩, h6⟩, h7⟩, h8⟩, h9⟩, h10⟩, h11⟩ := h
  exact ⟨⟨oexB_cls h1, h2, h3, h4, h5⟩, h6, h7, ⟨h8, h9, h3, h10⟩, h11⟩
/-- what a call with keywords alone binds, none of the parameters having a default -/
theorem kbn_req {K : PySem.W.Frag} {x qual : Str} {st : Stmt} {f : Addr} {fd : FuncData} {ps ks : List Str} {n : Nat} (F : Fun K x qual st f fd) (g : {α : Type} → List α → List α → List α)
    (hrel : ∀ {vs zs : List V} {us ws : List Value}, Vals vs us → Vals zs ws → Vals (g vs zs) (g us ws))
    (h : ∀ (kV doc pm : Value) (an : Option Addr) (cdv ct : Value) (us ws : List Value), us.length = n → ws.length = ks.length → bindArgs (PySem.W.fnOf x qual (defArgs st) (defBody st) (defScope st) .none kV doc pm an cdv ct) ⟨us, ks.zip ws⟩ = pure (ps.zip (g us ws))) :
    KBn K fd ps n ks (fun us ws => g us ws) (fun vs zs => g vs zs) := by
  obtain ⟨oc, od, kV, doc, pm, an, cdv, ct, osl, rfl, lk, hcd⟩ := F.ex
  exact ⟨fun s us ws _ l1 l2 => .of_eq (h kV doc pm an cdv ct us ws l1 l2), fun r1 r2 => hrel r1 r2⟩
end Fb

set_option maxHeartbeats 4000000
/-! heaps whose tables of code objects may change; what the suite of an except clause asks -/
namespace Fb
open PySem PySem.Spec PyProof.Rows L2 PySem.HandSPX
def noT (H : Hp) : Hp := fun a => match H a with
  | some (.tbl _) => none
  | x => x
theorem noT_of {H : Hp} {a : Addr} {o : HO} (h : noT H a = some o) : H a = some o ∧ ∀ ps, o ≠ .tbl ps := by
  unfold noT at h
  cases e : H a with
  | none => rw [e] at h; cases h
  | some u =>
    rw [e] at h
    cases u with
    | tbl ps => cases h
    | _ =>
      cases h
      exact ⟨rfl, fun ps z => by cases z⟩
theorem noT_to {H : Hp} {a : Addr} {o : HO} (h : H a = some o) (n : ∀ ps, o ≠ .tbl ps) : noT H a = some o := by
  unfold noT
  rw [h]
  cases o with
  | tbl ps => exact absurd rfl (n ps)
  | _ => rfl
theorem noT_none {H : Hp} {a : Addr} (h : H a = none) : noT H a = none := by
  unfold noT
  rw [h]
theorem mut_noT {o : HO} (m : isMut o) : ∀ ps, o ≠ .tbl ps := fun ps e => by
  subst e
  exact m
theorem tup_noT {o : HO} (t : TupO o) : ∀ ps, o ≠ .tbl ps := fun ps e => by
  subst e
  exact t
/-- all but what stands at B stays, but for tables -/
structure ExN (B : List Addr) (H H' : Hp) : Prop where
  ex : ∀ a o, a ∉ B → H a = some o → (∀ ps, o ≠ .tbl ps) → H' a = some o
  tk : TK H H'
theorem TK.extN {H H' : Hp} (e : LamX.ExtN H H') (t : LamX.Tabs tabT H') : TK H H' := ⟨fun a o to h => e a o h (tup_noT to), fun p hp _ => t p hp⟩
theorem Pers.tabs : Pers fun H => LamX.Tabs tabT H := fun _ _ t h p hp => t.tb p hp (h p hp)
section
variable {K : PySem.W.Frag} {B : List Addr} {H0 H H' : Hp} {L : List (Addr × HO)} {P : List (Hp → Prop)}
theorem Stt.noT (s : Stt B H0 L P H) : Stt B (noT H0) L P H :=
  ⟨fun a o hb h => s.ex a o hb (noT_of h).1, s.own, s.mu, fun p hp => (s.fr p hp).imp noT_none id, s.nd, s.ps, s.pp, ⟨fun a o t h => s.tk.all a o t (noT_of h).1, fun p hp ⟨ps, h, _⟩ => absurd rfl ((noT_of h).2 ps)⟩⟩
/-- a lambda was made -/
theorem Stt.lam (s : Stt B (Fb.noT H0) L P H) (e : LamX.ExtN H H') (t : LamX.Tabs tabT H') : Stt B (Fb.noT H0) L P H' :=
  ⟨fun a o hb h => e a o (s.ex a o hb h) (noT_of h).2, fun p hp => e _ _ (s.own p hp) (mut_noT (s.mu p hp)), s.mu, s.fr, s.nd, Stt.tk_ps s.pp s.ps (TK.extN e t), s.pp, s.tk.trans (TK.extN e t)⟩
/-- what the caller is told -/
theorem Stt.exN (s : Stt B (Fb.noT H0) L P H) (t : TK H0 H) : ExN B H0 H := ⟨fun a o hb h n => s.ex a o hb (noT_to h n), t⟩
/-- objects of one's own changed, and tables -/
theorem Stt.upN {L1 L1' L2 : List (Addr × HO)} (s : Stt B (Fb.noT H0) (L1 ++ L2) P H) (en : L1'.map (·.1) = L1.map (·.1)) (e : ExN (L1.map (·.1)) H H') (n : ∀ p ∈ L1', H' p.1 = some p.2) (m : ∀ p ∈ L1', isMut p.2) : Stt B (Fb.noT H0) (L1' ++ L2) P H' := by
  have nd := s.nd
  rw [List.map_append] at nd
  refine ⟨fun a o hb h => ?_, fun q hq => ?_, fun q hq => ?_, fun q hq => ?_, ?_, Stt.tk_ps s.pp s.ps e.tk, s.pp, s.tk.trans e.tk⟩
  · refine e.ex a o (fun z => ?_) (s.ex a o hb h) (noT_of h).2
    obtain ⟨q, hq, rfl⟩ := List.mem_map.mp z
    rcases s.fr q (List.mem_append_left _ hq) with f | f
    · rw [f] at h; cases h
    · exact hb f
  · rcases List.mem_append.mp hq with hq | hq
    · exact n q hq
    · refine e.ex _ _ (fun z => ?_) (s.own q (List.mem_append_right _ hq)) (mut_noT (s.mu q (List.mem_append_right _ hq)))
      exact (List.nodup_append.mp nd).2.2 q.1 z q.1 (List.mem_map_of_mem hq) rfl
  · rcases List.mem_append.mp hq with hq | hq
    · exact m q hq
    · exact s.mu q (List.mem_append_right _ hq)
  · rcases List.mem_append.mp hq with hq | hq
    · have : q.1 ∈ L1.map (·.1) := by rw [← en]; exact List.mem_map_of_mem hq
      obtain ⟨q', hq', e'⟩ := List.mem_map.mp this
      have := s.fr q' (List.mem_append_left _ hq')
      rw [e'] at this
      exact this
    · exact s.fr q (List.mem_append_right _ hq)
  · rw [List.map_append, en]
    exact nd
end
/-! ### list.count of flat items -/
section
variable {X : Cx} {K : PySem.W.Frag}
def rCntF (K : PySem.W.Frag) : V → List V → Hp → VK → Prop := fun x xs H Q => ∃ (p : Addr) (ys : List V) (y : V), x = .ref p ∧ xs = [y] ∧ SqL K H p ys ∧ flatV y = true ∧ ys.all flatV = true ∧ Q (.int (ys.countP fun z => eqV z y : Nat)) H
theorem countF {y : V} : ∀ {ys : List V} {us : List Value}, Vals ys us → ys.all flatV = true → us.countP (eqU y) = ys.countP fun z => eqV z y
  | _, _, .nil, _ => rfl
  | _, _, .cons r rs, f => by
    have f := Bool.and_eq_true_iff.mp (show _ = true from f)
    have ih := countF (y := y) rs f.2
    rw [List.countP_cons, List.countP_cons, ih, eqU_of r f.1]
theorem mt_countF : MtR X "list.count" (rCntF X.K) := by
  intro pins s σ H x xs v us Q I rx rxs h
  obtain ⟨p, ys, y, rfl, rfl, hs, fy, fys, q⟩ := h
  cases rx
  obtain ⟨u, rfl, ru⟩ := rxs.one
  obtain ⟨its, rv, ⟨⟨cls, dd, data, sl⟩, n, ho, hc, hdn, hd⟩, hlen⟩ := I.list hs
  simp only at hc hd
  subst hc hd
  refine call_meets PySem.F.slot_list_count ⟨_, ho, rfl⟩ PySem.F.entry_list_count (PySem.F.args_list_count_2 _ _)
    (SeqAt.list_countAt p its.toArray n dd sl u (eqU y)) ⟨ho, fun u' hu' => mem_eqAt ru fy rv fys u' (by simpa using hu'), ?_⟩
  have ec : its.toArray.toList.countP (eqU y) = ys.countP fun z => eqV z y := countF rv fys
  refine ⟨.int (ys.countP fun z => eqV z y : Nat), H, I.tok _, ⟨s.toks, ?_⟩, q⟩
  show Value.int ((its.toArray.toList.countP (eqU y) : Nat) : Int) s.toks = Value.int ((ys.countP fun z => eqV z y : Nat) : Int) s.toks
  rw [ec]
theorem k_countF (h : X.K = K) : MtR X "list.count" (rCntF K) := h ▸ mt_countF
theorem k_indexF (h : X.K = K) : MtR X "list.index" (rIndex K) := h ▸ mt_index
end
/-! ### the caught exception: isinstance, its fields -/
/-- the exception has no dict, or one of known fields -/
def XDict (H : Hp) (d : Option Addr) : Prop := d = none ∨ ∃ dd fs, d = some dd ∧ H dd = some (.xd fs)
def rIsX (K : PySem.W.Frag) (cls : Value) (d : Option Addr) (x : Addr) : List V → Hp → VK → Prop := fun xs H Q => ∃ (D : Addr) (t : V) (tv : Value) (b : Bool), cls = .ref D ∧ xs = [.ref x, t] ∧ XDict H d ∧ ExcC K D ∧ (∀ u, RelV t u → u = tv) ∧ PySem.W.kitOne K (.ref D) tv = some b ∧ Q (.bl b) H
section
variable {X : Cx} {K : PySem.W.Frag} {x : Addr} {ob : Obj} {cls : Value} {d : Option Addr} {more : List (Addr × Obj)}
theorem call_isX (hz : Zc cls d ob) (hf : ∃ vs, ob.data = .fields vs) : CallR (X.suite x ((x, ob) :: more)) (.builtin "isinstance") (rIsX X.K cls d x) := by
  intro pins s σ H xs us Q I r h
  obtain ⟨D, t, tv, b, hcl, rfl, hd, C, htv, hk, q⟩ := h
  cases r with
  | cons r1 r =>
    cases r with
    | cons r2 r =>
      cases r
      cases r1
      have et := htv _ r2
      subst et
      have hx := (I.pin (x, ob) (List.mem_append_left _ List.mem_cons_self)).1
      obtain ⟨vs, hv⟩ := hf
      obtain ⟨od, J⟩ : ∃ od, PySem.W.InstAt s.heap x ob D od := by
        rcases hd with hd | ⟨dd, fs, hd, hdd⟩
        · refine ⟨none, hx, hz.1.trans hcl, ?_, ?_⟩
          · unfold PySem.W.notCls
            rw [hv]
          · have := hz.2.trans hd
            rw [this]
            trivial
        · obtain ⟨mA, hns, _⟩ := (show ObjOk X.prog X.w H s.heap dd (.xd fs) from I.hok dd _ hdd)
          obtain ⟨od, ho, _⟩ := lookIn_ns hns
          refine ⟨some od, hx, hz.1.trans hcl, ?_, ?_⟩
          · unfold PySem.W.notCls
            rw [hv]
          · have := hz.2.trans hd
            rw [this]
            exact ho
      have hci : (PySem.W.clsIn X.K D).isSome = true := by
        obtain ⟨cd, hcd, _⟩ := PySem.W.any_some C.hd
        rw [hcd]
        rfl
      exact PySem.W.kia_one (PySem.W.kitx_exc hci C.hg C.hk C.hs C.ha C.hn C.ht C.hm) I.kIn J hk (fun z => nomatch z) fun tk => ⟨.bl b, H, I.kept (t' := tk) fun _ _ z => z, rfl, q⟩
theorem k_isX (hk : X.K = K) (hz : Zc cls d ob) (hf : ∃ vs, ob.data = .fields vs) : CallR (X.suite x ((x, ob) :: more)) (.builtin "isinstance") (rIsX K cls d x) := hk ▸ call_isX hz hf
theorem takes_len {W : WX} (t : Takes X W) : Takes X (fun c d σ H => σ.length = X.N.length → W c d σ H) := fun u s1 z => by
  obtain ⟨a, B, sI, pins, σ, H, cls, d, e, I, nb, up, sky, na, os, ag, w⟩ := z
  exact t u s1 ⟨a, B, sI, pins, σ, H, cls, d, e, I, nb, up, sky, na, os, ag, w I.len⟩
end
/-! ### defs that hold lambdas -/
def lamQ (x : Str) : Str := x ++ ".<locals>." ++ "<lambda>"
/-- a def with a lambda: its code object c, that one's table P -/
structure LDef (K : PySem.W.Frag) (mg : Str → Option Value) (base : Heap) (x : Str) (st : Stmt) : Prop where
  ex : ∃ (f c P : Addr) (oc : Value) (od : Option Addr) (kV doc pm : Value) (an : Option Addr) (ct : Value) (osl : Array (Option Value)),
    K.lookup f = some ⟨oc, od, .func (PySem.W.fnOf x x (defArgs st) (defBody st) (defScope st) .none kV doc pm an (.ref c) ct), osl⟩ ∧ PySem.W.codeIn K (.ref c) x = true ∧ PySem.W.keepIn K (.ref f) = true ∧ mg x = some (.ref f) ∧
    LamX.TabB base mg c P ∧ (P, lamQ x) ∈ tabT ∧ ∀ p ∈ tabT, p.1 = P → p.2 = lamQ x
section
variable {P : Program} {w : World} {K : PySem.W.Frag} {mg : Str → Option Value} {base : Heap}
/-- what a lambda's making asks of its def -/
structure LamOk (X : Cx) (x : Str) : Prop where
  ex : ∃ (c P : Addr), LamX.TabB X.base X.mg c P ∧ X.env.code = .ref c ∧ (P, lamQ x) ∈ tabT ∧ (∀ p ∈ tabT, p.1 = P → p.2 = lamQ x) ∧ X.env.qual ++ "<lambda>" = lamQ x
theorem cal_ofL {x : Str} {st : Stmt} {N ps : List Str} {k : Nat} {sp : Sp} (D : LDef K mg base x st) (S : FnScope N ps (defScope st))
    (b : ∀ (kV doc pm : Value) (an : Option Addr) (cdv ct : Value) (us : List Value), us.length = ps.length → bindArgs (PySem.W.fnOf x x (defArgs st) (defBody st) (defScope st) .none kV doc pm an cdv ct) ⟨us, []⟩ = pure (ps.zip us))
    (len : ∀ vs H Q E, sp vs H Q E → vs.length = ps.length)
    (hbody : ∀ (f : Addr) (cdv : Value) (A : Around) (outer : List Env) (s : Shared) (H : Hp) (vs : List V) (Q : VK) (E : XK), Room k (A.deeper (envOfC x (defScope st) s.heap.objs.size f cdv)) → LamOk (cxOf (L2.CX P w) P w K mg base N x (defScope st) f cdv A outer s H E).nox x → sp vs H Q E →
      ∃ t, PSs (cxOf (L2.CX P w) P w K mg base N x (defScope st) f cdv A outer s H E).nox (defBody st) t ∧ t { nx := fun _ H' => Q .non H', rt := Q } (start N vs) H) : Cal P w K mg base (k + 1) x sp := by
  obtain ⟨f, c, Pt, oc, od, kV, doc, pm, an, ct, osl, lk, hcd, kp, hm, TB, m1, m2⟩ := D.ex
  have F : Fun K x x st f (PySem.W.fnOf x x (defArgs st) (defBody st) (defScope st) .none kV doc pm an (.ref c) ct) := fun_mk lk hcd kp
  refine ⟨f, _, ps, fn_of lk hcd S len fun A outer s H vs Q E hr hsp => ?_, hm, kp, F.binds b⟩
  obtain ⟨t, p, q⟩ := hbody f (.ref c) A outer s H vs Q E hr ⟨c, Pt, TB, rfl, m1, m2, rfl⟩ hsp
  exact ⟨t, p.nox, q⟩
end
/-- g(lambda: body), g a def that calls what it gets -/
theorem pe_lam {X : Cx} {x a qx : Str} {sg : Stmt} {Ng : List Str} {TT : (XK → Hp → VK → Prop) → Hp → VK → Prop} {params : Arguments} {body : Expr} {scope sc : Scope} {t : XK → TE} {p lpos pos : Pos} {k : Nat} (D : DefIn X.K X.mg x x sg) (Sg : FnScope Ng [a] (defScope sg))
    (b : ∀ (kV doc pm : Value) (an : Option Addr) (cdv ct : Value) (us : List Value), us.length = 1 → bindArgs (PySem.W.fnOf x x (defArgs sg) (defBody sg) (defScope sg) .none kV doc pm an cdv ct) ⟨us, []⟩ = pure ([a].zip us))
    (G : ∀ (g : Addr) (cdg : Value), LamX.GivesTo X Ng x (defScope sg) g cdg (defBody sg) a (lamQ qx) TT) (lo : LamOk X qx) (hr : Room (k + 2) X.A)
    (hbody : ∀ (A : Around) (outer : List Env) (s : Shared) (H : Hp) (E : XK) (f c' : Addr), Room k (A.deeper (LamX.lamEnv X scope s.heap.objs.size f c')) → PE (LamX.lamCx X A outer s H E scope f c') body (t E))
    (hNg : Ng[0]? = some a := by rfl) (hva : Vis (defScope sg) a := by first | exact Or.inl rfl | exact Or.inr (Or.inl rfl) | exact Or.inr rfl) (hg : Gl X x := by rfl) (hsc : X.env.scope = sc := by rfl) (L : LamX.LamS sc scope := by exact LamX.lamS_by (by decide +kernel)) (hdef : defaultsOf params X.env = ([], []) := by rfl)
    (hbind : ∀ (q : Str) (cl : List (Str × Addr)) (pm cv ctv : Value), bindArgs (PySem.W.kla_fn "<lambda>" q params body scope cl pm cv ctv) ⟨[], []⟩ = pure [] := by intros; rfl)
    (hdb : (x == ("__debug__" : Str)) = false := by decide) (hd : (a == ("__debug__" : Str)) = false := by decide) (hcd : (a == ("__classdict__" : Str)) = false := by decide) :
    PE X (.Call (.Name x p) [.Lambda params body scope lpos] [] pos) (LamX.tLam tabT TT t) := by
  subst hsc
  obtain ⟨f, fd, F, hm⟩ := D.ex
  obtain ⟨c, Pt, TB, hc, m1, m2, hq⟩ := lo.ex
  have hb : L2.Binds X.K fd [a] [] := F.binds (ps := [a]) b
  have hkp := F.kp
  obtain ⟨oc, od, kV, doc, pm, an, cdv, ct, osl, rfl, lk, hcg⟩ := F.ex
  rw [← hq] at m1 m2
  exact LamX.pe_lamcall hg hm hkp lk hcg hb Sg hNg hva (by rw [hq]; exact G f cdv) TB hc m1 m2 hr L hdef hbind hbody hdb hd hcd
end Fb

set_option maxHeartbeats 4000000
/-! zip(x, y, z) in a for or a comprehension: lists or tuples -/
namespace Fb
open PySem PySem.Spec PyProof.Rows L2
def ItZ3 (k1 k2 k3 : Bool) (K : PySem.W.Frag) (a b d : Addr) : It :=
  ⟨fun i H => ∃ (xs ys zs : List V) (x y z : V), SqB k1 K H a xs ∧ SqB k2 K H b ys ∧ SqB k3 K H d zs ∧ xs[i]? = some x ∧ ys[i]? = some y ∧ zs[i]? = some z,
    fun i H v H' => ∃ T x y z, v = .ref T ∧ H T = none ∧ H' = upd H T (.tup [x, y, z]) ∧ (∀ xs, SqB k1 K H a xs → xs[i]? = some x) ∧ (∀ ys, SqB k2 K H b ys → ys[i]? = some y) ∧ ∀ zs, SqB k3 K H d zs → zs[i]? = some z,
    fun i H => ∃ xs ys zs : List V, SqB k1 K H a xs ∧ SqB k2 K H b ys ∧ SqB k3 K H d zs ∧ i ≤ xs.length ∧ i ≤ ys.length ∧ i ≤ zs.length ∧ (i = xs.length ∨ i = ys.length ∨ i = zs.length)⟩
structure ZAp3 (z TI TO i1 i2 i3 a b d : Addr) : Prop where
  S : ZipSep3 z TI TO i1 i2 i3 [i1, a] [i2, b] [i3, d]
  a1 : a ≠ i1
  b2 : b ≠ i2
  d3 : d ≠ i3
theorem turn_zip3 {P : Program} {w : World} {K : PySem.W.Frag} {elts : List Expr} {kk : Nat} {tpos : Pos} (k1 k2 k3 : Bool) {a b d z TI TO i1 i2 i3 : Addr} (D : ZAp3 z TI TO i1 i2 i3 a b d) :
    Turn P w K (.Tuple elts kk tpos) (ItZ3 k1 k2 k3 K a b d) [z, TI, TO, i1, i2, i3] z (fun i h => IsZip h z TI TO .none ∧ IsTupOf3 h TI (.ref i1) (.ref i2) (.ref i3) ∧ (∃ x y u, IsTupOf3 h TO x y u) ∧ SrcIt k1 h i1 a i ∧ SrcIt k2 h i2 b i ∧ SrcIt k3 h i3 d i) where
  mem := by simp
  obj := fun i h st c hc => by
    obtain ⟨hz, hTI, ⟨x, y, u, hTO⟩, h1, h2, h3⟩ := st
    have e' : c = z ∨ c = TI ∨ c = TO ∨ c = i1 ∨ c = i2 ∨ c = i3 := by simpa using hc
    rcases e' with q | q | q | q | q | q
    · rw [q]; exact ⟨_, hz, fun v q => nomatch q⟩
    · rw [q]; exact ⟨_, hTI, fun v q => nomatch q⟩
    · rw [q]; exact ⟨_, hTO, fun v q => nomatch q⟩
    · rw [q]; exact h1.obj
    · rw [q]; exact h2.obj
    · rw [q]; exact h3.obj
  keep := fun i h h' st k => by
    obtain ⟨hz, hTI, ⟨x, y, u, hTO⟩, h1, h2, h3⟩ := st
    exact ⟨k z (by simp) _ hz, k TI (by simp) _ hTI, ⟨x, y, u, k TO (by simp) _ hTO⟩, h1.at' fun o q => k i1 (by simp) o q, h2.at' fun o q => k i2 (by simp) o q, h3.at' fun o q => k i3 (by simp) o q⟩
  item := by
    intro X hP hw hK hc i pins s σ H E I hf st hg
    subst hP hw hK
    obtain ⟨hz, hTI, ⟨x0, y0, u0, hTO⟩, h1, h2, h3⟩ := st
    obtain ⟨xs, ys, zs, x, y, t, hqx, hqy, hqz, hx, hy, ht⟩ := hg
    obtain ⟨its, rv, p, _⟩ := hqx.src I
    obtain ⟨its2, rv2, p2, _⟩ := hqy.src I
    obtain ⟨its3, rv3, p3, _⟩ := hqz.src I
    obtain ⟨u, hu, ru⟩ := rv.get hx
    obtain ⟨u2, hu2, ru2⟩ := rv2.get hy
    obtain ⟨u3, hu3, ru3⟩ := rv3.get ht
    have hzl : z < s.heap.objs.size := Heap.lt_size hz
    have l1 : i < its.toArray.size := by simpa using (List.getElem?_eq_some_iff.mp hu).1
    have l2 : i < its2.toArray.size := by simpa using (List.getElem?_eq_some_iff.mp hu2).1
    have l3 : i < its3.toArray.size := by simpa using (List.getElem?_eq_some_iff.mp hu3).1
    have hh : X.A.handled = none := I.ok.hd hc
    refine wpAny_pyNext_zipD3_item D.S (src_draws (by exact hh) k1 i1 a D.a1 its.toArray) (src_draws (by exact hh) k2 i2 b D.b2 its2.toArray) (src_draws (by exact hh) k3 i3 d D.d3 its3.toArray) hz hTI hTO ⟨h1, p⟩ ⟨h2, p2⟩ ⟨h3, p3⟩ l1 l2 l3 fun x1 x2 x3 h' tk q1 q2 q3 z' TO' s1' s2' s3' hT hsz hk => ?_
    have e1 : x1 = u := by
      have r : its.toArray[i]? = some u := by simpa using hu
      rw [r] at q1
      exact (Option.some.inj q1).symm
    have e2 : x2 = u2 := by
      have r : its2.toArray[i]? = some u2 := by simpa using hu2
      rw [r] at q2
      exact (Option.some.inj q2).symm
    have e3 : x3 = u3 := by
      have r : its3.toArray[i]? = some u3 := by simpa using hu3
      rw [r] at q3
      exact (Option.some.inj q3).symm
    subst e1 e2 e3
    refine ⟨_, rfl, wpAny_letOwnedTupleGo_zip (s := { s with heap := h', toks := tk }) z' fun h'' z'' sb => ?_⟩
    have hT2 : h''.get? s.heap.objs.size = some { cls := .type "tuple", data := .seq #[x1, x2, x3] } := (sb.2 _ (Nat.ne_of_gt hzl)).trans hT
    have new : ObjOk X.prog X.w (upd H s.heap.objs.size (.tup [x, y, t])) h'' s.heap.objs.size (.tup [x, y, t]) :=
      ⟨by show 3 ≤ sizeLine; decide, [x1, x2, x3], .cons ru (.cons ru2 (.cons ru3 .nil)), ⟨_, hT2, rfl, _, rfl⟩⟩
    have I1 : Inv X pins σ (upd H s.heap.objs.size (.tup [x, y, t])) { s with heap := h'', toks := tk } :=
      I.turnedNew (t' := tk) (ch := [z, TI, TO, i1, i2, i3]) (fun c o hb q => (sb.2 c (fun q' => hb (by simp [q']))).trans (hk c o (fun q' => hb (by simp [q'])) (fun q' => hb (by simp [q'])) (fun q' => hb (by simp [q'])) (fun q' => hb (by simp [q'])) (fun q' => hb (by simp [q'])) q)) hf (Nat.le_refl _) new
    refine ⟨.ref s.heap.objs.size, _, I1, rfl, ⟨_, x, y, t, rfl, I.hok.fresh (Nat.le_refl _), rfl, fun l hl => by rw [hl.inj I hqx]; exact hx, fun l hl => by rw [hl.inj I hqy]; exact hy, fun l hl => by rw [hl.inj I hqz]; exact ht⟩, ⟨z'', ?_, ⟨x1, x2, x3, ?_⟩, ?_, ?_, ?_⟩, fun c hcm => ?_⟩
    · exact (sb.2 _ D.S.TIz).trans (hk _ _ D.S.TIz D.S.TITO D.S.TIi1 D.S.TIi2 D.S.TIi3 hTI)
    · exact (sb.2 _ D.S.TOz).trans TO'
    · exact s1'.1.at' fun o q => (sb.2 _ (Ne.symm D.S.zi1)).trans q
    · exact s2'.1.at' fun o q => (sb.2 _ (Ne.symm D.S.zi2)).trans q
    · exact s3'.1.at' fun o q => (sb.2 _ (Ne.symm D.S.zi3)).trans q
    · have hlt : c < s.heap.objs.size := by
        have e' : c = z ∨ c = TI ∨ c = TO ∨ c = i1 ∨ c = i2 ∨ c = i3 := by simpa using hcm
        rcases e' with q | q | q | q | q | q
        · rw [q]; exact hzl
        · rw [q]; exact Heap.lt_size hTI
        · rw [q]; exact Heap.lt_size hTO
        · rw [q]; obtain ⟨_, e1, _⟩ := h1.obj; exact Heap.lt_size e1
        · rw [q]; obtain ⟨_, e2, _⟩ := h2.obj; exact Heap.lt_size e2
        · rw [q]; obtain ⟨_, e2, _⟩ := h3.obj; exact Heap.lt_size e2
      rw [upd_ne (Nat.ne_of_lt hlt)]
      exact (hf c hcm).1
  done := by
    intro X hP hw hK hc i pins s σ H E I hf st hg
    subst hP hw hK
    obtain ⟨hz, hTI, ⟨x0, y0, u0, hTO⟩, h1, h2, h3⟩ := st
    obtain ⟨xs, ys, zs, hqx, hqy, hqz, le1, le2, le3, hend⟩ := hg
    obtain ⟨its, rv, p, _⟩ := hqx.src I
    obtain ⟨its2, rv2, p2, _⟩ := hqy.src I
    obtain ⟨its3, rv3, p3, _⟩ := hqz.src I
    have l1 := rv.length
    have l2 := rv2.length
    have l3 := rv3.length
    have hh : X.A.handled = none := I.ok.hd hc
    exact wpAny_pyNext_zipD3_end D.S (src_draws (by exact hh) k1 i1 a D.a1 its.toArray) (src_draws (by exact hh) k2 i2 b D.b2 its2.toArray) (src_draws (by exact hh) k3 i3 d D.d3 its3.toArray) hz hTI hTO ⟨h1, p⟩ ⟨h2, p2⟩ ⟨h3, p3⟩ (by simp; omega) (by simp; omega) (by simp; omega) (by simp; omega) fun h' tk hk => ⟨rfl, I.turnedL (t' := tk) (ch := [z, TI, TO, i1, i2, i3]) (fun c o hb q =>
      hk c o (fun q' => hb (by simp [q'])) (fun q' => hb (by simp [q'])) (fun q' => hb (by simp [q'])) (fun q' => hb (by simp [q'])) (fun q' => hb (by simp [q'])) q) hf⟩
  self := fun A i s Q E st h => wpAny_pyIter_zip st.1 h
def iZip3 (K : PySem.W.Frag) (ta : TA) : TI := fun σ H R => ta σ H fun vs H1 => ∃ k1 k2 k3 a b d xs ys zs, vs = [.ref a, .ref b, .ref d] ∧ SqB k1 K H1 a xs ∧ SqB k2 K H1 b ys ∧ SqB k3 K H1 d zs ∧ R (ItZ3 k1 k2 k3 K a b d) H1
theorem pi_zip3 {X : Cx} {e e2 e3 : Expr} {ta : TA} {p pos tpos : Pos} {elts : List Expr} {kk : Nat} (hg : Gl X "zip") (hm : X.mg "zip" = none) (ha : PA X [e, e2, e3] ta)
    (hs : starEach [e, e2, e3] X.env = (false, eval e X.env) :: starEach [e2, e3] X.env := by rfl) (hpl : (backTo pos (starEach [e2, e3] X.env)).any (·.1) = false := by rfl) :
    PI X (.Tuple elts kk tpos) (.Call (.Name "zip" p) [e, e2, e3] [] pos) (iZip3 X.K ta) := by
  refine ⟨fun pins s σ H R I h => ?_⟩
  refine Call_ (ld_blt I hg hm PyProof.Rows.boot_zip (PyProof.Rows.callWith_type1 (thn (ha.run pos pins s σ H _ I h) fun us s1 ⟨vs, H1, I1, r1, q1⟩ => ?_) hs hpl))
  obtain ⟨k1, k2, k3, a, b, d, xs, ys, zs, ex, hqx, hqy, hqz, q⟩ := q1
  subst ex
  cases r1 with
  | cons r rr =>
    cases rr with
    | cons r' rr =>
      cases rr with
      | cons r'' rr =>
        cases rr
        cases r
        cases r'
        cases r''
        obtain ⟨its, rv, p1, la⟩ := hqx.src I1
        obtain ⟨its2, rv2, p2, lb⟩ := hqy.src I1
        obtain ⟨its3, rv3, p3, ld⟩ := hqz.src I1
        refine zip_begins3 (src_begins k1 a its.toArray) (src_begins k2 b its2.toArray) (src_begins k3 d its3.toArray) p1 p2 p3 fun h' hz hTI hTO h1 h2 h3 hsz hk => wpAny_pyIter_zip hz ?_
        have I2 : Inv X pins σ H1 { s1 with heap := h' } := I1.kept (t' := s1.toks) hk
        have ap : ZAp3 (s1.heap.objs.size + 5) (s1.heap.objs.size + 3) (s1.heap.objs.size + 4) s1.heap.objs.size (s1.heap.objs.size + 1) (s1.heap.objs.size + 2) a b d :=
          ⟨zip_sep3 (fp1 := [a]) (fp2 := [b]) (fp3 := [d]) (fun c hc => by rw [List.mem_singleton.mp hc]; exact la) (fun c hc => by rw [List.mem_singleton.mp hc]; exact lb) (fun c hc => by rw [List.mem_singleton.mp hc]; exact ld), Nat.ne_of_lt la, Nat.ne_of_lt (Nat.lt_succ_of_lt lb), Nat.ne_of_lt (Nat.lt_succ_of_lt (Nat.lt_succ_of_lt ld))⟩
        refine ⟨s1.heap.objs.size + 5, [s1.heap.objs.size + 5, s1.heap.objs.size + 3, s1.heap.objs.size + 4, s1.heap.objs.size, s1.heap.objs.size + 1, s1.heap.objs.size + 2], _, _, H1, rfl, I2, turn_zip3 k1 k2 k3 ap, ⟨hz, hTI, ⟨_, _, _, hTO⟩, src_new h1, src_new h2, src_new h3⟩, fun c hcm => ?_, q⟩
        have e' : c = s1.heap.objs.size + 5 ∨ c = s1.heap.objs.size + 3 ∨ c = s1.heap.objs.size + 4 ∨ c = s1.heap.objs.size ∨ c = s1.heap.objs.size + 1 ∨ c = s1.heap.objs.size + 2 := by simpa using hcm
        have hle : s1.heap.objs.size ≤ c := by
          rcases e' with z | z | z | z | z | z
          · rw [z]; exact Nat.le_add_right _ _
          · rw [z]; exact Nat.le_add_right _ _
          · rw [z]; exact Nat.le_add_right _ _
          · rw [z]; exact Nat.le_refl _
          · rw [z]; exact Nat.le_add_right _ _
          · rw [z]; exact Nat.le_add_right _ _
        exact I1.fpOk hle (I1.hok.fresh hle)
theorem k_zip3 {X : Cx} {K : PySem.W.Frag} {e e2 e3 : Expr} {tr : TA} {p pos tpos : Pos} {elts : List Expr} {kk : Nat} (h : X.K = K) (hg : Gl X "zip") (hm : X.mg "zip" = none) (ha : PA X [e, e2, e3] tr)
    (hs : starEach [e, e2, e3] X.env = (false, eval e X.env) :: starEach [e2, e3] X.env := by rfl) (hpl : (backTo pos (starEach [e2, e3] X.env)).any (·.1) = false := by rfl) : PI X (.Tuple elts kk tpos) (.Call (.Name "zip" p) [e, e2, e3] [] pos) (iZip3 K tr) := h ▸ pi_zip3 hg hm ha hs hpl
def YTrip (xs ys zs : Nat → Option V) : Nat → Hp → V → Hp → Prop := fun i H v H' => ∃ T x y z, v = .ref T ∧ H T = none ∧ H' = upd H T (.tup [x, y, z]) ∧ xs i = some x ∧ ys i = some y ∧ zs i = some z
theorem walk_zip3 {k1 k2 k3 : Bool} {K : PySem.W.Frag} {a b d : Addr} {xs ys zs : List V} {n : Nat} (hx : xs.length = n) (hy : ys.length = n) (hz : zs.length = n) : Walk (ItZ3 k1 k2 k3 K a b d) n (fun H => SqB k1 K H a xs ∧ SqB k2 K H b ys ∧ SqB k3 K H d zs) (YTrip (fun i => xs[i]?) (fun i => ys[i]?) (fun i => zs[i]?)) := by
  refine ⟨fun i H hi g => ⟨xs, ys, zs, xs[i]'(by omega), ys[i]'(by omega), zs[i]'(by omega), g.1, g.2.1, g.2.2, by simp, by simp, by simp⟩, fun H g => ⟨xs, ys, zs, g.1, g.2.1, g.2.2, by omega, by omega, by omega, by omega⟩, fun i H x H' hi g y => ?_⟩
  obtain ⟨T, z, z2, z3, e, n, e2, f, f2, f3⟩ := y
  exact ⟨T, z, z2, z3, e, n, e2, f xs g.1, f2 ys g.2.1, f3 zs g.2.2⟩
end Fb

set_option maxHeartbeats 4000000
/-! lambdas as values: kept in lists, with one default or none; called by a def that is handed one -/
namespace Fb
open PySem PySem.Spec PyProof.Rows L2 PySem.HandSPX
/-! ### a function object that is known -/
def ObO (a : Addr) (ob : Obj) : HO := .ext fun h => h.get? a = some ob
theorem obO_at {P : Program} {w : World} {H : Hp} {h : Heap} {a : Addr} {ob : Obj} (hk : HOk P w H h) (e : H a = some (ObO a ob)) : h.get? a = some ob := by
  obtain ⟨z, _⟩ := hk a _ e
  exact z
theorem obO_ne {a : Addr} {ob : Obj} (ps : Array Value) : ObO a ob ≠ .tbl ps := fun z => by
  unfold ObO at z
  cases z
/-- a lambda's words; df: the name of its one parameter, which has the default 0 -/
structure LamD where
  df : Option Str
  params : Arguments
  body : Expr
  scope : Scope
  deriving Inhabited
def lamFd (q : Str) (d : LamD) (cl : List (Str × Addr)) (dV doc pm : Value) (c : Addr) (ctv : Value) : FuncData := PySem.W.kdv_fn "<lambda>" q d.params (.expr d.body) d.scope cl dV doc pm (.ref c) ctv
/-- what stands as the defaults -/
def DfAt (df : Option Str) (dV : Value) (H : Hp) : Prop := match df with
  | none => dV = .none
  | some _ => ∃ (t : Addr) (k : Tok), dV = .ref t ∧ H t = some (ObO t (PySem.W.kdv_tup [.int 0 k]))
/-- the lambda d stands at f, its code object has the name q, it caught the cells cl -/
def LamAt (q : Str) (cl : List (Str × Addr)) (d : LamD) (f : Addr) (H : Hp) : Prop :=
  ∃ (c : Addr) (dV doc pm ctv : Value), H f = some (ObO f { cls := .type "function", data := .func (lamFd q d cl dV doc pm c ctv) }) ∧ H c = some (LamX.CodeO c q) ∧ DfAt d.df dV H
theorem ext_keep {H H' : Hp} {a : Addr} {φ : Heap → Prop} (t : TK H H') (h : H a = some (.ext φ)) : H' a = some (.ext φ) := t.all a _ trivial h
theorem DfAt.keep {H H' : Hp} {df : Option Str} {dV : Value} (t : ∀ a φ, H a = some (.ext φ) → H' a = some (.ext φ)) (h : DfAt df dV H) : DfAt df dV H' := by
  unfold DfAt at h ⊢
  cases df with
  | none => exact h
  | some _ =>
    obtain ⟨a, k, e, h⟩ := h
    exact ⟨a, k, e, t _ _ h⟩
theorem LamAt.keep {q : Str} {cl : List (Str × Addr)} {d : LamD} {f : Addr} {H H' : Hp} (t : ∀ a φ, H a = some (.ext φ) → H' a = some (.ext φ)) (h : LamAt q cl d f H) : LamAt q cl d f H' := by
  obtain ⟨c, dV, doc, pm, ctv, h1, h2, h3⟩ := h
  exact ⟨c, dV, doc, pm, ctv, t _ _ h1, t _ _ h2, h3.keep t⟩
theorem Pers.lamAt {q : Str} {cl : List (Str × Addr)} {d : LamD} {f : Addr} : Pers (LamAt q cl d f) := fun _ _ t h => h.keep fun _ _ e => ext_keep t e
section
variable {X : Cx} {pins : List (Addr × Obj)} {σ : L2.St} {H : Hp} {s : Shared}
theorem inv_ob {t' : Nat} (ob : Obj) (nf : ob.isFreed = false) (I : Inv X pins σ H s) : Inv X pins σ (upd H s.heap.objs.size (ObO s.heap.objs.size ob)) { s with heap := s.heap.push ob, toks := t' } := by
  have e : (s.heap.push ob).get? s.heap.objs.size = some ob := Heap.get?_push_size _ nf
  exact I.laid (fun b u q => Heap.get?_push_of_some _ q) (Nat.le_refl _) ⟨e, ⟨_, e⟩, fun _ _ z st => st _ z⟩
/-- a code object's table grew -/
theorem tabs_grow {T : List (Addr × Str)} {Pt c' : Addr} {q : Str} {ps : Array Value} {pos : Pos} (hT : LamX.Tabs T H) (hP : H Pt = some (.tbl ps)) (ht : TriplesOk ps.toList) (nC : H c' = none) (hu : ∀ p ∈ T, p.1 = Pt → p.2 = q)
    (ha : ∀ (pos : Pos) (cv : Value), codeAmong pos ps.toList = some cv → ∃ c, cv = .ref c ∧ H c = some (LamX.CodeO c q)) :
    LamX.ExtN H (upd (upd H Pt (.tbl (ps ++ #[rawInt pos.line, rawInt pos.col, .ref c']))) c' (LamX.CodeO c' q)) ∧ LamX.Tabs T (upd (upd H Pt (.tbl (ps ++ #[rawInt pos.line, rawInt pos.col, .ref c']))) c' (LamX.CodeO c' q)) := by
  have x : LamX.ExtN H (upd (upd H Pt (.tbl (ps ++ #[rawInt pos.line, rawInt pos.col, .ref c']))) c' (LamX.CodeO c' q)) := by
    intro b o e n
    have n1 : b ≠ Pt := fun z => by
      subst z
      rw [hP] at e
      exact n ps (Option.some.inj e).symm
    rw [upd_ne (ne_of_none e nC), upd_ne n1, e]
  refine ⟨x, fun p hp => ?_⟩
  have push : (ps ++ #[rawInt pos.line, rawInt pos.col, .ref c']).toList = ps.toList ++ [rawInt pos.line, rawInt pos.col, .ref c'] := by simp
  by_cases hb : p.1 = Pt
  · rw [hb, hu p hp hb]
    refine ⟨ps ++ #[rawInt pos.line, rawInt pos.col, .ref c'], by rw [upd_ne (ne_of_none hP nC), upd_same], ?_, fun p2 cv => ?_⟩
    · rw [push]
      exact PySem.TriplesOk_snoc _ _ _ _ ht
    · rw [push]
      intro hcv
      cases LamX.among_app _ ht hcv with
      | inl z =>
        obtain ⟨c0, e1, e2⟩ := ha p2 cv z
        exact ⟨c0, e1, x _ _ e2 LamX.codeO_ne⟩
      | inr z => exact ⟨c', z, upd_same⟩
  · obtain ⟨qs, a1, a2, a3⟩ := hT p hp
    refine ⟨qs, by rw [upd_ne (ne_of_none a1 nC), upd_ne hb, a1], a2, fun p2 cv hcv => ?_⟩
    obtain ⟨c0, e1, e2⟩ := a3 p2 cv hcv
    exact ⟨c0, e1, x _ _ e2 LamX.codeO_ne⟩
/-- the lambda is made, its defaults at dV -/
theorem lamv_tail {T : List (Addr × Str)} {c Pt : Addr} {d : LamD} {pos : Pos} {dV : Value} {EX : Value → Shared → Prop} {Q : Value → Shared → Prop} (I : Inv X pins σ H s) (TB : LamX.TabB X.base X.mg c Pt) (hcode : X.env.code = .ref c)
    (hm : (Pt, X.env.qual ++ "<lambda>") ∈ T) (hu : ∀ p ∈ T, p.1 = Pt → p.2 = X.env.qual ++ "<lambda>") (hT : LamX.Tabs T H) (hfree : ∀ y ∈ d.scope.names, y.2 = .free → ∃ c, X.env.cells.lookup y.1 = some c) (hd : DfAt d.df dV H)
    (h : ∀ (f : Addr) (H1 : Hp) (s' : Shared), Inv X pins σ H1 s' → LamX.ExtN H H1 → LamX.Tabs T H1 → LamAt (X.env.qual ++ "<lambda>") (cloFrom X.env.cells d.scope.names []) d f H1 → Q (.ref f) s') :
    wpAny (model X.prog X.w) X.A (makeTail "<lambda>" (X.env.qual ++ "<lambda>") d.params (.expr d.body) d.scope X.env dV .none none pos pos.line) Q EX s := by
  obtain ⟨ps, hP, ht, ha⟩ := hT _ hm
  have hP' : s.heap.get? Pt = some { cls := .none, data := .fields ps } := I.hok Pt _ hP
  -- what is left once the code object is known
  have fin : ∀ (c' : Addr) (doc ctv : Value) (H1 : Hp) (h1 : Heap) (t1 t2 : Nat), Inv X pins σ H1 { s with heap := h1, toks := t1 } → LamX.ExtN H H1 → LamX.Tabs T H1 → H1 c' = some (LamX.CodeO c' (X.env.qual ++ "<lambda>")) →
      Q (.ref h1.objs.size) { s with heap := h1.push { cls := .type "function", data := .func (lamFd (X.env.qual ++ "<lambda>") d (cloFrom X.env.cells d.scope.names []) dV doc ((X.mg "__name__").getD .none) c' ctv) }, toks := t2 } := by
    intro c' doc ctv H1 h1 t1 t2 J x1 T1 hc'
    have nF : H1 h1.objs.size = none := J.hok.fresh (Nat.le_refl _)
    have up : ∀ b o, H1 b = some o → upd H1 h1.objs.size (ObO h1.objs.size { cls := .type "function", data := .func (lamFd (X.env.qual ++ "<lambda>") d (cloFrom X.env.cells d.scope.names []) dV doc ((X.mg "__name__").getD .none) c' ctv) }) b = some o := fun b o e => (upd_ne (ne_of_none e nF)).trans e
    exact h _ _ _ (inv_ob (t' := t2) _ rfl J) (fun b o e n => up _ _ (x1 b o e n)) (T1.ext up) ⟨c', dV, doc, _, ctv, upd_same, up _ _ hc', hd.keep fun a φ e => up _ _ (x1 _ _ e fun _ z => by cases z)⟩
  cases hc : codeAmong pos ps.toList with
  | some cv =>
    obtain ⟨c', rfl, hco⟩ := ha pos cv hc
    refine PySem.W.kdv_makeTailHit (c := c) (P := Pt) (ps := ps) (mg := X.mg) (closure_ok hfree) I.ok.glob (I.mod.glob.keeps I.bk) hcode (TB.code.keeps I.bk) hP' ht hc (TB.bm.keeps I.bk) ?_
    intro ctv doc h1 tk kp _
    exact fin c' doc ctv H h1 tk tk (I.kept kp) (LamX.ExtN.refl H) hT hco
  | none =>
    refine PySem.W.kdv_makeTail (c := c) (P := Pt) (ps := ps) (mg := X.mg) (closure_ok hfree) I.ok.glob (I.mod.glob.keeps I.bk) hcode (TB.code.keeps I.bk) hP' ht hc TB.gP (TB.bm.keeps I.bk) ?_
    intro c' ctv doc h1 tk kp hge _ hrec htb
    obtain ⟨_, oc, vs, t, e2, ho⟩ := hrec
    cases e2
    obtain ⟨g1, g2⟩ := tabs_grow (pos := pos) hT hP ht (I.hok.fresh hge) hu ha
    exact fin c' doc ctv _ h1 tk tk (LamX.inv_table (t' := tk) I hP kp htb hge ⟨oc, vs, t, ho⟩) g1 g2 upd_same
end
/-! ### what a lambda's text must be -/
structure LamS (N : List Str) (sc : Scope) (d : LamD) : Prop where
  kind : d.scope.kind = .function
  co : d.scope.isCoroutine = false
  gen : d.scope.isGenerator = false
  own : ∀ y ∈ d.scope.names, y.2 ≠ .cell
  par : ∀ y ∈ d.scope.names, y.2 = .local → y.1 ∉ N
  free : ∀ y ∈ d.scope.names, y.2 = .free → sc.names.lookup y.1 = some .cell ∨ sc.names.lookup y.1 = some .free
  df : ∀ x, d.df = some x → d.scope.names.lookup x = some .local
def lamSB (N : List Str) (sc : Scope) (d : LamD) : Bool :=
  decide (d.scope.kind = .function) && !d.scope.isCoroutine && !d.scope.isGenerator && (d.scope.names.all fun y => !decide (y.2 = .cell) && (!decide (y.2 = .local) || !decide (y.1 ∈ N)) && (!decide (y.2 = .free) || decide (sc.names.lookup y.1 = some .cell) || decide (sc.names.lookup y.1 = some .free))) &&
  (match d.df with | none => true | some x => decide (d.scope.names.lookup x = some .local))
theorem lamS_of {N : List Str} {sc : Scope} {d : LamD} (h : lamSB N sc d = true) : LamS N sc d := by
  unfold lamSB at h
  simp only [Bool.and_eq_true, Bool.or_eq_true, Bool.not_eq_true', decide_eq_true_eq, decide_eq_false_iff_not, List.all_eq_true] at h
  obtain ⟨⟨⟨⟨h1, h2⟩, h3⟩, h4⟩, h5⟩ := h
  refine ⟨h1, h2, h3, fun y hy => (h4 y hy).1.1, fun y hy e => ?_, fun y hy e => ?_, fun x e => ?_⟩
  · rcases (h4 y hy).1.2 with z | z
    · exact absurd e z
    · exact z
  · rcases (h4 y hy).2 with (z | z) | z
    · exact absurd e z
    · exact .inl z
    · exact .inr z
  · rw [e] at h5
    simpa using h5
theorem LamS.has {X : Cx} {d : LamD} (L : LamS X.N X.env.scope d) (ok : X.Ok) : ∀ y ∈ d.scope.names, y.2 = .free → ∃ c, X.env.cells.lookup y.1 = some c := fun y hy e => ok.has _ (L.free y hy e)
/-- how its arguments are bound -/
structure LamB (d : LamD) : Prop where
  no : d.df = none → d.params.defaults = [] ∧ ∀ (q : Str) (cl : List (Str × Addr)) (doc pm : Value) (c : Addr) (ctv : Value), bindArgs (lamFd q d cl .none doc pm c ctv) ⟨[], []⟩ = pure []
  one : ∀ x, d.df = some x → (∃ (tk : Nat) (p : Pos), d.params.defaults = [.Constant (.int 0) tk p]) ∧ ∀ (q : Str) (cl : List (Str × Addr)) (dV doc pm : Value) (c : Addr) (ctv : Value), ∃ k, bindArgs (lamFd q d cl dV doc pm c ctv) ⟨[], []⟩ = seqItems? dV >>= k ∧ ∀ v, k (some #[v]) = pure [(x, v)]
  kw : d.params.kw_defaults = []
theorem LamB.no' {d : LamD} (h : d.df = none) (h1 : d.params.defaults = []) (h2 : ∀ (q : Str) (cl : List (Str × Addr)) (doc pm : Value) (c : Addr) (ctv : Value), bindArgs (lamFd q d cl .none doc pm c ctv) ⟨[], []⟩ = pure []) (h3 : d.params.kw_defaults = []) : LamB d :=
  ⟨fun _ => ⟨h1, h2⟩, fun x e => (by rw [h] at e; cases e), h3⟩
theorem LamB.one' {d : LamD} {a : Str} {tk : Nat} {p : Pos} (h : d.df = some a) (h1 : d.params.defaults = [.Constant (.int 0) tk p])
    (h2 : ∀ (q : Str) (cl : List (Str × Addr)) (dV doc pm : Value) (c : Addr) (ctv : Value), ∃ k, bindArgs (lamFd q d cl dV doc pm c ctv) ⟨[], []⟩ = seqItems? dV >>= k ∧ ∀ v, k (some #[v]) = pure [(a, v)]) (h3 : d.params.kw_defaults = []) : LamB d :=
  ⟨fun e => (by rw [h] at e; cases e), fun x e => (by rw [h] at e; cases e; exact ⟨⟨tk, p, h1⟩, h2⟩), h3⟩
/-! ### the lambdas of a def's body that stand in lists, or are appended -/
def lamE : Expr → List LamD
  | .Lambda params body scope _ => [⟨match params.args with | a :: _ => some a.arg | [] => none, params, body, scope⟩]
  | _ => []
def lamL : Expr → List LamD
  | .List es _ => es.flatMap lamE
  | e => lamE e
def lamsX : Expr → List LamD
  | .Lambda params body scope pos => lamE (.Lambda params body scope pos)
  | .List es _ => es.flatMap lamE
  | .Call (.Attribute _ _ _) es _ _ => es.flatMap lamL
  | .BinOp a _ b _ => lamL a ++ lamL b
  | _ => []
def lamsS : Stmt → List LamD
  | .Assign _ e _ => lamsX e
  | .Expr e _ => lamsX e
  | _ => []
def inner : Stmt → List Stmt
  | .For _ _ b _ _ => b
  | .If _ b _ _ => b
  | _ => []
def lamsIn : Nat → List Stmt → List LamD
  | 0, _ => []
  | n + 1, ss => ss.flatMap fun s => lamsS s ++ lamsIn n (inner s)
section
variable {X : Cx}
/-- a lambda as a value -/
def tLamV (T : List (Addr × Str)) (q : Str) (cl : List (Str × Addr)) (d : LamD) : TE := fun _ H Q => LamX.Tabs T H ∧ ∀ (f : Addr) (H1 : Hp), LamX.ExtN H H1 → LamX.Tabs T H1 → LamAt q cl d f H1 → Q (.ref f) H1
theorem pe_lamV {d : LamD} {qx : Str} {sc : Scope} {pos : Pos} {params : Arguments} {body : Expr} {scope : Scope} (lo : LamOk X qx) (L : LamS X.N sc d) (B : LamB d) (hsc : X.env.scope = sc := by rfl) (h1 : params = d.params := by rfl) (h2 : body = d.body := by rfl) (h3 : scope = d.scope := by rfl) :
    PE X (.Lambda params body scope pos) (tLamV tabT (X.env.qual ++ "<lambda>") (cloFrom X.env.cells d.scope.names []) d) := by
  subst hsc h1 h2 h3
  obtain ⟨c, Pt, TB, hc, m1, m2, hq⟩ := lo.ex
  rw [← hq] at m1 m2
  refine ⟨fun pins s σ H Q I h => ?_⟩
  obtain ⟨hT, h⟩ := h
  have fin : ∀ (f : Addr) (H1 : Hp) (s' : Shared), Inv X pins σ H1 s' → LamX.ExtN H H1 → LamX.Tabs tabT H1 → LamAt (X.env.qual ++ "<lambda>") (cloFrom X.env.cells d.scope.names []) d f H1 → EP X pins σ Q (.ref f) s' := fun f H1 s' J x1 T1 A1 => ⟨.ref f, H1, J, rfl, h f H1 x1 T1 A1⟩
  cases hdf : d.df with
  | none =>
    obtain ⟨e0, _⟩ := B.no hdf
    refine PySem.W.kla_eval (by rw [defaultsOf_eq, e0, B.kw]; rfl) ?_
    rw [makeFunction_eq]
    simp only [List.zip_nil_right, List.filterMap_nil, List.isEmpty_nil, if_true, pure_bind]
    exact lamv_tail (d := d) I TB hc m1 m2 hT (L.has I.ok) (by unfold DfAt; rw [hdf]) fin
  | some x =>
    obtain ⟨⟨tk, p, e0⟩, _⟩ := B.one x hdf
    refine PySem.W.kdv_lam (by rw [e0]; rfl) B.kw ?_
    rw [e0]
    refine PySem.W.kdv_all1 (thn ((pe_int (X := X) (i := 0)).run pins s σ H (fun v H1 => v = .int 0 ∧ H1 = H) I ⟨rfl, rfl⟩) fun u s1 ⟨v, H1, I1, r1, q1⟩ => ?_)
    obtain ⟨rfl, rfl⟩ := q1
    obtain ⟨k, rfl⟩ := (show ∃ k, u = Value.int 0 k from r1)
    refine PySem.W.kdv_all0 ?_
    rw [makeFunction_eq]
    simp only [List.zip_nil_right, List.filterMap_nil, List.isEmpty_nil, List.isEmpty_cons, if_true, pure_bind, Bool.false_eq_true, if_false]
    refine wpAny_bind (wpAny_newTextTuple ?_)
    have nT : H1 s1.heap.objs.size = none := I1.hok.fresh (Nat.le_refl _)
    have up : ∀ b o, H1 b = some o → upd H1 s1.heap.objs.size (ObO s1.heap.objs.size (PySem.W.kdv_tup [.int 0 k])) b = some o := fun b o e => (upd_ne (ne_of_none e nT)).trans e
    refine lamv_tail (d := d) (dV := .ref s1.heap.objs.size) (H := upd H1 s1.heap.objs.size (ObO s1.heap.objs.size (PySem.W.kdv_tup [.int 0 k]))) (inv_ob (t' := s1.toks) (PySem.W.kdv_tup [.int 0 k]) rfl I1) TB hc m1 m2 (hT.ext up) (L.has I.ok) ?_ fun f H2 s' J x1 T1 A1 => fin f H2 s' J (fun b o e n => x1 b o (up _ _ e) n) T1 A1
    unfold DfAt
    rw [hdf]
    exact ⟨_, k, rfl, upd_same⟩
end
/-! ### the lambda's body, entered while its maker's frame is alive -/
section
variable {X : Cx} {pins : List (Addr × Obj)} {σ : L2.St} {H HZ : Hp} {s s1 : Shared}
theorem lamv_start {A : Around} {outer : List Env} {E : XK} {d : LamD} {f c' : Addr} {h1 : Heap} {tk : Nat} {m : Str → Option Value} (L : LamS X.N X.env.scope d) (I : Inv X pins σ H s) (Z : Env0 X.prog X.w X.K X.mg X.base A outer s1 HZ) (hA : A.handled = none)
    (u : Un (frs X.stack) [] H HZ s.heap s1.heap) (ns : h1.Ns s1.heap.objs.size m) (k1 : ∀ b o, s1.heap.get? b = some o → h1.get? b = some o) :
    Inv (LamX.lamCx X A outer s1 HZ E d.scope f c') [] σ HZ { s1 with heap := h1, toks := tk } := by
  have caught : ∀ {y}, d.scope.names.lookup y = some .free → ∃ c, (cloFrom X.env.cells d.scope.names []).lookup y = some c := fun {y} q =>
    mem_lookup (cloFrom_has (cells := X.env.cells) (acc := []) (PySem.mem_of_lookup q))
  have ours : ∀ {y c}, (cloFrom X.env.cells d.scope.names []).lookup y = some c → X.env.cells.lookup y = some c := by
    intro y c q
    cases cloFrom_mem (PySem.mem_of_lookup q) with
    | inl z => cases z
    | inr z =>
      obtain ⟨c1, e1⟩ := L.has I.ok _ z.1 rfl
      rw [show X.env.cells.lookup y = some c1 from e1] at z
      rw [show c = c1 from z.2]
      exact e1
  have there : ∀ {c : Addr} {v : Option Value}, H c = none → s.heap.IsCell c v → h1.IsCell c v := by
    rintro c v n ⟨o, ho, q⟩
    obtain ⟨sl, e⟩ := u.any ho n (List.not_mem_nil)
    exact ⟨_, k1 _ _ e, q⟩
  have none_ex : ∀ b : Addr, b ∉ (LamX.lamCx X A outer s1 HZ E d.scope f c').ex := fun b z => (List.not_mem_nil z).elim
  refine ⟨⟨Z.mod, L.kind, rfl, rfl, Nat.le_refl _, fun x y c q1 q2 => I.ok.inj x y c (ours q1) (ours q2), fun x q => ?_, fun x c q _ => ?_, fun _ => hA, Around.frames_deeper Z.frames, .inr ⟨rfl, rfl⟩, fun b z => (none_ex b z).elim, Z.bs, Z.bsz, fun b _ _ => none_ex b, fun b z => (none_ex b z).elim, Z.funs, Z.frf⟩,
    rfl, Z.bare, Un.kept k1, ⟨m, ns, fun i y v q1 q2 q3 => ?_⟩, fun x c q => ?_, Z.hok.fresh (Nat.le_refl _), fun x c q => ?_, fun p hp => ?_, Z.hok.kept k1, I.len⟩
  · rcases (show d.scope.names.lookup x = some .cell ∨ d.scope.names.lookup x = some .free from q) with q | q
    · exact (L.own _ (PySem.mem_of_lookup q) rfl).elim
    · exact caught q
  · exact absurd (show false = true from q) Bool.false_ne_true
  · have isFree : d.scope.names.lookup y = some .free := by
      rcases (show Vis d.scope y from q3) with q | q | q
      · exact (L.par _ (PySem.mem_of_lookup q) rfl (List.mem_of_getElem? q1)).elim
      · exact (L.own _ (PySem.mem_of_lookup q) rfl).elim
      · exact q
    have outerKind := L.free _ (PySem.mem_of_lookup isFree) rfl
    obtain ⟨m0, _, hl⟩ := I.loc
    obtain ⟨w, r, lk⟩ := hl i y v q1 q2 (.inr outerKind)
    refine ⟨w, r, .inr ⟨.inr isFree, ?_⟩⟩
    obtain ⟨c2, e2⟩ := caught isFree
    have e1 := ours e2
    rcases lk with ⟨z, _⟩ | ⟨_, c3, e3, z⟩
    · have z : X.env.scope.names.lookup y = some .local := z
      rcases outerKind with q | q <;> rw [show X.env.scope.names.lookup y = _ from q] at z <;> cases z
    · rw [e3] at e1
      cases e1
      exact ⟨_, e2, there (I.freeC y _ e3) z⟩
  · obtain ⟨w, z⟩ := I.cell x c (ours q)
    exact ⟨w, there (I.freeC x c (ours q)) z⟩
  · obtain ⟨_, o, ho, _⟩ := I.cell x c (ours q)
    exact u.free c o ho (I.freeC x c (ours q)) (List.not_mem_nil)
  · exact (List.not_mem_nil (show p ∈ ([] : List (Addr × Obj)) from hp)).elim
/-- what is told of a lambda's body -/
structure LamGood (X : Cx) (k : Nat) (d : LamD) (t : XK → TE) : Prop where
  L : LamS X.N X.env.scope d
  B : LamB d
  run : ∀ (A : Around) (outer : List Env) (s : Shared) (H : Hp) (E : XK) (f c' : Addr), Room k (A.deeper (LamX.lamEnv X d.scope s.heap.objs.size f c')) → PE (LamX.lamCx X A outer s H E d.scope f c') d.body (t E)
/-- x(), in a def that was handed the lambda at f -/
theorem pe_actV {Ng : List Str} {qg a : Str} {sg : Scope} {g f : Addr} {cdg : Value} {d : LamD} {t : XK → TE} {k i : Nat} {pn : List (Addr × Obj)} {xe : Value → Shared → Prop} {W : WX} {E : XK} {p1 p2 : Pos}
    (I : Inv X pins σ H s) (G : LamGood X k d t) (tk : Takes ((cxOf C8.CX0 X.prog X.w X.K X.mg X.base Ng qg sg g cdg X.A X.stack s H C8.E0).tr pn xe) W) (hW : ∀ cls dd σ' H', E cls dd H' → W cls dd σ' H') (hr : Room (k + 1) (X.A.deeper (envOfC qg sg s.heap.objs.size g cdg)))
    (hN : Ng[i]? = some a) (hv : Vis sg a) (hd : (a == ("__debug__" : Str)) = false) (hcd : (a == ("__classdict__" : Str)) = false) :
    PE ((cxOf C8.CX0 X.prog X.w X.K X.mg X.base Ng qg sg g cdg X.A X.stack s H C8.E0).tr pn xe) (.Call (.Name a p1) [] [] p2)
      (fun σZ HZ Q => σZ[i]? = some (some (.ref f)) ∧ LamAt (X.env.qual ++ "<lambda>") (cloFrom X.env.cells d.scope.names []) d f HZ ∧ t E σ HZ Q) := by
  refine ⟨fun pinsZ sZ σZ HZ Q IZ h => ?_⟩
  obtain ⟨hs, hL, ht⟩ := h
  refine wpAny_Call_Name_kw (thn ((pe_var (pos := p1) hN hv hd hcd).run pinsZ sZ σZ HZ (fun v H1 => v = .ref f ∧ H1 = HZ) IZ ⟨.ref f, hs, rfl, rfl⟩) fun u s1 ⟨v, H1, I1, r1, q1⟩ => ?_)
  obtain ⟨rfl, rfl⟩ := q1
  obtain rfl : u = Value.ref f := r1
  obtain ⟨c', dV, doc, pm, ctv, hf, hc, hdf⟩ := hL
  have of1 := obO_at I1.hok hf
  refine PySem.W.callWith_F0 ⟨_, _, _, _, of1⟩ ?_
  obtain ⟨⟨oc, vs, tt, o1, o2, o3⟩, _⟩ := I1.hok c' _ hc
  obtain ⟨binds, hb, hloc⟩ : ∃ binds, BindsTo s1 (lamFd (X.env.qual ++ "<lambda>") d (cloFrom X.env.cells d.scope.names []) dV doc pm c' ctv) ⟨[], []⟩ binds ∧ ∀ y ∈ binds, d.scope.names.lookup y.1 = some .local := by
    unfold DfAt at hdf
    cases hq : d.df with
    | none =>
      rw [hq] at hdf
      subst hdf
      exact ⟨[], .of_eq ((G.B.no hq).2 _ _ _ _ _ _), fun y hy => (List.not_mem_nil hy).elim⟩
    | some x =>
      rw [hq] at hdf
      obtain ⟨tp, tk, rfl, htp⟩ := hdf
      obtain ⟨kk, b1, b2⟩ := (G.B.one x hq).2 (X.env.qual ++ "<lambda>") (cloFrom X.env.cells d.scope.names []) (.ref tp) doc pm c' ctv
      refine ⟨[(x, .int 0 tk)], .of_defaults (items := #[.int 0 tk]) rfl (obO_at I1.hok htp) rfl b1 (b2 _), fun y hy => ?_⟩
      rw [List.mem_singleton.mp hy]
      exact G.L.df x hq
  have rc : codeAny (model X.prog X.w) (X.A.deeper (envOfC qg sg s.heap.objs.size g cdg)) (.call (.ref f) ⟨[], []⟩) (CR (L2.CX X.prog X.w) (envOfC qg sg s.heap.objs.size g cdg :: X.stack) X.prog X.w H1 s1 Q E) s1 := by
    refine PySem.W.kla_callFunE hr.depth of1 rfl G.L.co G.L.gen rfl ⟨c', oc, vs, tt, rfl, o1, o2, o3⟩ (hb _ _ _ _ ?_)
    refine wpAny_newFunctionEnv (fun y hy => G.L.own y hy) hloc (fun h1 ns sb => ⟨I1.nolimit.fresh _ sb, ?_⟩) G.L.kind
    show codeAny _ _ (.expr d.body (LamX.lamEnv X d.scope s1.heap.objs.size f c')) _ _
    have k1 : ∀ b o, s1.heap.get? b = some o → h1.get? b = some o := fun b o e => sb.extBut b o (Nat.ne_of_lt (Heap.lt_size e)) (Heap.get?_push_of_some _ e)
    have J := lamv_start (E := E) (f := f) (c' := c') (tk := s1.toks + binds.length) G.L I I1.env0 hr.hd I1.base ns k1
    refine PySem.W.kla_codeExpr (wpAny_mono ((G.run _ _ s1 H1 E f c' (hr.deeper _)).run [] _ _ H1 Q J ht) (fun v s' hq => ?_) fun _ _ hq => hq)
    obtain ⟨w, H', J', rv, q⟩ := hq
    exact ⟨w, H', J'.os, J'.bare, J'.base, J'.hok, rv, q⟩
  have hx : Passes (L2.CX X.prog X.w) ((cxOf C8.CX0 X.prog X.w X.K X.mg X.base Ng qg sg g cdg X.A X.stack s H C8.E0).tr pn xe) E := passes_call tk hW
  refine wpAny_call (codeAny_mono rc fun r s' hq => ?_)
  match r, hq with
  | .error e, hq => exact hx pinsZ σZ H1 s1 e s' I1 hq
  | .ok (.ret u), hq => exact I1.after hq
  | .ok .next, hq => exact hq.elim
  | .ok .brk, hq => exact hq.elim
  | .ok .cont, hq => exact hq.elim
end
/-! ### g(v), the slot of v holds one of the lambdas that X made; called in a block of X -/
/-- the block's heap, seen from the maker -/
def Back (X : Cx) (pins : List (Addr × Obj)) (σ : L2.St) (Xb : Cx) : Prop := ∀ (pins' : List (Addr × Obj)) (σ' : L2.St) (H' : Hp) (s' : Shared), Inv Xb pins' σ' H' s' → Inv X pins σ H' s'
def tCallV (q : Str) (env : Env) (i : Nat) (ds : List (LamD × (XK → TE))) (TT : (XK → Hp → VK → Prop) → Hp → VK → Prop) (σ : L2.St) : TE := fun σb H Q =>
  ∃ (j : Nat) (d : LamD) (t : XK → TE) (f : Addr), ds[j]? = some (d, t) ∧ σb[i]? = some (some (.ref f)) ∧ LamAt q (cloFrom env.cells d.scope.names []) d f H ∧ TT (fun E H' Q' => LamAt q (cloFrom env.cells d.scope.names []) d f H' ∧ t E σ H' Q') H Q
inductive Goods (X : Cx) (k : Nat) : List (LamD × (XK → TE)) → Prop
  | nil : Goods X k []
  | cons {d : LamD} {t : XK → TE} {ds : List (LamD × (XK → TE))} (h : LamGood X k d t) (r : Goods X k ds) : Goods X k ((d, t) :: ds)
theorem Goods.at {X : Cx} {k : Nat} : ∀ {ds : List (LamD × (XK → TE))} {j : Nat} {d : LamD} {t : XK → TE}, Goods X k ds → ds[j]? = some (d, t) → LamGood X k d t
  | _, 0, _, _, .cons h _, e => by
    cases e
    exact h
  | _, j + 1, _, _, .cons _ r, e => Goods.at (j := j) r e
theorem pe_callV {X : Cx} {pins : List (Addr × Obj)} {σ : L2.St} {s0 : Shared} {H0 : Hp} {scb : Scope} {cenv : Env} {fp : List Addr} {x a v : Str} {sg : Stmt} {Ng : List Str} {TT : (XK → Hp → VK → Prop) → Hp → VK → Prop} {ds : List (LamD × (XK → TE))} {k i : Nat} {p p2 pos : Pos}
    (bk : Back X pins σ (X.blk s0 H0 scb cenv fp)) (D : DefIn X.K X.mg x x sg) (Sg : FnScope Ng [a] (defScope sg))
    (b : ∀ (kV doc pm : Value) (an : Option Addr) (cdv ct : Value) (us : List Value), us.length = 1 → bindArgs (PySem.W.fnOf x x (defArgs sg) (defBody sg) (defScope sg) .none kV doc pm an cdv ct) ⟨us, []⟩ = pure ([a].zip us))
    (G : ∀ (g : Addr) (cdg : Value), LamX.GivesTo X Ng x (defScope sg) g cdg (defBody sg) a (X.env.qual ++ "<lambda>") TT) (hds : Goods X k ds) (hr : Room (k + 2) X.A)
    (hv : X.N[i]? = some v) (hvv : Vis cenv.scope v) (hvd : (v == ("__debug__" : Str)) = false := by decide) (hvc : (v == ("__classdict__" : Str)) = false := by decide)
    (hNg : Ng[0]? = some a := by rfl) (hva : Vis (defScope sg) a := by first | exact Or.inl rfl | exact Or.inr (Or.inl rfl) | exact Or.inr rfl) (hg : Gl (X.blk s0 H0 scb cenv fp) x := by rfl)
    (hdb : (x == ("__debug__" : Str)) = false := by decide) (hd : (a == ("__debug__" : Str)) = false := by decide) (hcd : (a == ("__classdict__" : Str)) = false := by decide) :
    PE (X.blk s0 H0 scb cenv fp) (.Call (.Name x p) [.Name v p2] [] pos) (tCallV (X.env.qual ++ "<lambda>") X.env i ds TT σ) := by
  refine ⟨fun pins' s σb H Q J h => ?_⟩
  obtain ⟨g, fd, F, hm⟩ := D.ex
  have hb : L2.Binds X.K fd [a] [] := F.binds (ps := [a]) b
  have hkp := F.kp
  obtain ⟨oc, od, kV, doc, pm, an, cdv, ct, osl, rfl, lk, hcg⟩ := F.ex
  obtain ⟨j, d, t, f, hj, hsl, hL, hT⟩ := h
  have good := hds.at hj
  refine wpAny_Call_Name_kw (ld_glob J hg hm ?_ hdb)
  refine PySem.W.callWith_K (h₀ := X.base) J.ok.mod.kin hkp ?_ (by rfl) (by rfl)
  show wpAny _ _ (spliced ((false, eval (.Name v p2) cenv) :: backTo pos (starEach [] cenv))) _ _ s
  refine Calls.spliced_cons (thn ((pe_var (X := X.blk s0 H0 scb cenv fp) (pos := p2) hv hvv hvd hvc).run pins' s σb H (fun w H1 => w = .ref f ∧ H1 = H) J ⟨.ref f, hsl, rfl, rfl⟩) fun u s1 ⟨w, H1, J1, r1, q1⟩ => ?_)
  obtain ⟨rfl, rfl⟩ := q1
  obtain rfl : u = Value.ref f := r1
  refine Calls.spliced_nil ⟨J1.kIn, ?_⟩
  have I1 := bk _ _ _ _ J1
  obtain ⟨c', hco⟩ : ∃ c', H1 c' = some (LamX.CodeO c' (X.env.qual ++ "<lambda>")) := by
    obtain ⟨c', _, _, _, _, _, z, _⟩ := hL
    exact ⟨c', z⟩
  have rc : codeAny (model X.prog X.w) X.A (.call (.ref g) ⟨[.ref f], []⟩) (CR C8.CX0 X.stack X.prog X.w H1 s1 Q C8.E0) s1 := by
    refine LamX.run_ofS (N := Ng) (ps := [a]) (us := [.ref f]) (vs := [.ref f]) lk hcg Sg hr J1.env0 (hb s1 [.ref f] J1.kIn rfl) (.cons rfl .nil) rfl fun hr' => ?_
    obtain ⟨t', ht', hq'⟩ := G g cdv f c' s1 H1 Q (fun E H' Q' => LamAt (X.env.qual ++ "<lambda>") (cloFrom X.env.cells d.scope.names []) d f H' ∧ t E σ H' Q') (fun W pn xe E p1 p2 tk hW => by
      have act := pe_actV (i := 0) (p1 := p1) (p2 := p2) (f := f) I1 good tk hW hr' hNg hva hd hcd
      exact ⟨fun pZ sZ σZ HZ QZ IZ ⟨z1, _, z3⟩ => act.run pZ sZ σZ HZ QZ IZ ⟨z1, z3⟩⟩) hco hT
    exact ⟨t', ht'.nox, hq'⟩
  refine wpAny_call (codeAny_mono rc fun r s2 hq => ?_)
  match r, hq with
  | .error e, hq => exact (show False from hq).elim
  | .ok (.ret u), hq => exact J1.after hq
  | .ok .next, hq => exact hq.elim
  | .ok .brk, hq => exact hq.elim
  | .ok .cont, hq => exact hq.elim
end Fb

set_option maxHeartbeats 4000000
/-! a list comprehension whose item is told the maker's frame: [g(f) for f in fs], fs lambdas of the frame -/
namespace Fb
open PySem PySem.Spec PyProof.Rows L2 PySem.HandSPX
def tLcV (wi : TI) (g : TG) (te : L2.St → TE) (vs : List Nat) : TE := fun σ H Q => tLc wi g tYes (te σ) vs σ H Q
theorem i_lcV {wi : TI} {g : TG} {te : L2.St → TE} {vs : List Nat} {σ : L2.St} {H : Hp} {Q : VK} (h : wi σ H fun J H1 => LcIt J g tYes (te σ) vs σ H1 Q) : tLcV wi g te vs σ H Q := h
section
variable {X : Cx}
theorem pe_lcV {elt tg iter : Expr} {scope : Scope} {own : List (Str × Nat)} {pos : Pos} {wi : TI} {g : TG} {te : L2.St → TE} (hc : X.calm = true) (hN : X.N.Nodup) (hi : PI X tg iter wi) (ok : BlkOk X.N X.env.scope scope own)
    (hg : ∀ (z : Shared) (K : Hp) (C : Addr) (cl : List (Str × Addr)) (fp : List Addr), PG (X.blk z K scope (compEnvC scope cl C X.env) fp) tg g)
    (he : ∀ (pins : List (Addr × Obj)) (σ : L2.St) (z : Shared) (K : Hp) (C : Addr) (cl : List (Str × Addr)) (fp : List Addr), Back X pins σ (X.blk z K scope (compEnvC scope cl C X.env) fp) → PE (X.blk z K scope (compEnvC scope cl C X.env) fp) elt (te σ))
    (hs : ∀ x, foldedSetIterable iter X.env x = pure x := by intro _; rfl) : PE X (.ListComp elt [⟨tg, iter, [], 0⟩] scope pos) (tLcV wi g te (own.map (·.2))) := by
  refine ⟨fun pins s σ H Q I0 h => ?_⟩
  rw [eval_ListComp]
  have caught : ∀ y ∈ scope.names, y.2 = .free → ∃ c, X.env.cells.lookup y.1 = some c := fun y hy e => I0.ok.has _ (ok.free y hy e)
  refine wpAny_comprehension_free (use := none) rfl hs (closure_ok caught) ok.kind (fun y hy e => by rw [ok.uniq y hy, e]) (thn (hi.run pins s σ H _ I0 h) fun _ _ h1 => thn h1 fun _ sa h2 => ?_)
  obtain ⟨it, fp, tn, J, Ha, rfl, Ia, T, sta, fa, q⟩ := h2
  refine wpAny_newObj_type (newEnv_comp ?_) (by show 0 ≤ sizeLine; decide)
  obtain ⟨W, ⟨m0, w0⟩, turn⟩ := q sa.heap.objs.size (Ia.hok.fresh (Nat.le_refl _))
  have nD : Ha sa.heap.objs.size = none := Ia.hok.fresh (Nat.le_refl _)
  generalize hD : sa.heap.objs.size = D at *
  -- the new list stands
  obtain ⟨sb, hsb⟩ : ∃ sb : Shared, sb = { sa with heap := sa.heap.push { cls := .type "list", data := .seq ([] : List Value).toArray } } := ⟨_, rfl⟩
  have hpb : sb.heap = sa.heap.push { cls := .type "list", data := .seq ([] : List Value).toArray } := by rw [hsb]
  have kb : ∀ b o, sa.heap.get? b = some o → sb.heap.get? b = some o := fun b o e => by
    rw [hpb]
    exact Heap.get?_push_of_some _ e
  have Ib : Inv X pins σ (upd Ha D (.lst [])) sb := by
    rw [hsb]
    refine Ia.laid (t' := sa.toks) (fun b o e => Heap.get?_push_of_some _ e) (Nat.le_of_eq hD) ⟨Nat.zero_le _, [], 0, .nil, ?_⟩
    rw [← hD]
    exact Heap.get?_push_size _ rfl
  have low : ∀ b ∈ fp, b < D := fun b hb => by
    obtain ⟨_, e, _⟩ := T.obj _ _ sta b hb
    rw [← hD]
    exact Heap.lt_size e
  generalize hHb : upd Ha D (.lst []) = Hb at Ib w0
  have fb : ∀ b ∈ fp, FpOk X pins Hb b ∧ b < sb.heap.objs.size := fun b hb => by
    refine ⟨⟨?_, (fa b hb).2⟩, ?_⟩
    · rw [← hHb, upd_ne (Nat.ne_of_lt (low b hb))]
      exact (fa b hb).1
    · rw [hpb, Heap.size_push, hD]
      exact Nat.lt_succ_of_lt (low b hb)
  have Ic := block_start Ib ok hN fb
  obtain ⟨ce, hce⟩ : ∃ ce, ce = compEnvC scope (cellsFrom (sb.heap.objs.size + 1) scope.names (cloFrom X.env.cells scope.names [])) sb.heap.objs.size X.env := ⟨_, rfl⟩
  have ceL : ce.locals = sb.heap.objs.size := by rw [hce]; rfl
  have bkX : Back X pins σ (X.blk sb Hb scope ce fp) := fun p2 σ2 H2 s2 J2 =>
    Ib.call' (ch := fp) J2.os J2.base J2.hok J2.bare fun b hb => ⟨(fb b hb).1.2.2.2.1, (fb b hb).1.2.1, (fb b hb).1.2.2.2.2.1, (fb b hb).1.2.2.2.2.2⟩
  have ptg : PG (X.blk sb Hb scope ce fp) tg g := hce ▸ hg sb Hb sb.heap.objs.size _ fp
  have pel : PE (X.blk sb Hb scope ce fp) elt (te σ) := by
    have z := he pins σ sb Hb sb.heap.objs.size (cellsFrom (sb.heap.objs.size + 1) scope.names (cloFrom X.env.cells scope.names [])) fp
    rw [← hce] at z
    exact z bkX
  rw [← hce] at Ic
  have e0 : ({ sa with heap := sa.heap.push { cls := .type "list", data := .seq ([] : List Value).toArray } } : Shared) = sb := hsb.symm
  rw [e0]
  show codeAny _ _ (.compStart (.ListComp elt [⟨tg, iter, [], 0⟩] scope pos) 0 (.ref it) (.ref D) (compEnvC scope (cellsFrom (sb.heap.objs.size + 1) scope.names (cloFrom X.env.cells scope.names [])) sb.heap.objs.size X.env)) (compPost (model X.prog X.w) X.A X.xe none (EP X pins σ Q) (.ref D) sb.heap.objs.size) { sb with heap := pushCells (sb.heap.push { cls := .type "dict", data := .dict #[] }) scope.names }
  rw [← hce]
  obtain ⟨sc, hsc⟩ : ∃ sc : Shared, sc = { sb with heap := pushCells (sb.heap.push { cls := .type "dict", data := .dict #[] }) scope.names } := ⟨_, rfl⟩
  rw [← hsc] at Ic ⊢
  have stc : tn 0 sc.heap := by
    refine T.keep _ _ _ sta fun b _ o e => ?_
    rw [hsc]
    exact pushCells_keeps _ _ _ _ (Heap.get?_push_of_some _ (kb b o e))
  have fpb : ∀ {p2 : List (Addr × Obj)} {σ2 : L2.St} {H2 : Hp} {s2 : Shared}, Inv (X.blk sb Hb scope ce fp) p2 σ2 H2 s2 → p2 = [] → (∀ b ∈ fp, H2 b = none) → ∀ b ∈ fp, FpOk (X.blk sb Hb scope ce fp) p2 H2 b := by
    intro p2 σ2 H2 s2 J2 e n b hb
    subst e
    obtain ⟨x1, x2⟩ := J2.ok.exf b hb
    exact ⟨n b hb, x1, J2.ok.exfs b hb, .inl hb, x2, fun p hp => (List.not_mem_nil (show p ∈ ([] : List (Addr × Obj)) from hp)).elim⟩
  -- what holds ahead of each turn
  let Pre : Nat → Shared → Prop := fun n z => ∃ i Hz, Inv (X.blk sb Hb scope ce fp) [] (wipe σ (own.map (·.2))) Hz z ∧ tn i z.heap ∧ (∀ b ∈ fp, Hz b = none) ∧ W i n Hz
  have loop : codeAny (model X.prog X.w) X.A (.compLoop (.ListComp elt [⟨tg, iter, [], 0⟩] scope pos) 0 (.ref it) (.ref D) ce) (compPost (model X.prog X.w) X.A X.xe none (EP X pins σ Q) (.ref D) sb.heap.objs.size) sc := by
    refine compLoop_any Pre (fun n z hz => ?_) m0 ⟨0, Hb, Ic, stc, fun b hb => (fb b hb).1.1, w0⟩
    obtain ⟨i, Hz, Iz, stz, nz, wz⟩ := hz
    rcases turn i n Hz wz with ⟨stop, fin⟩ | ⟨go, Nx, more, step⟩
    · refine thnF (T.done (X.blk sb Hb scope ce fp) rfl rfl rfl hc i [] z _ Hz (fun _ _ => False) Iz (fpb Iz rfl nz) stz stop) fun r z1 ⟨hr, I1⟩ => ?_
      subst hr
      obtain ⟨m, ns, _⟩ := I1.loc
      have ns : z1.heap.Ns ce.locals m := ns
      have nC : Hz ce.locals = none := I1.free
      rw [ceL] at ns nC
      refine ⟨m, ns, fun h2 sm => ?_⟩
      obtain ⟨f0, f1, f2, f3, f4, f5⟩ := Ib.fpOk (Nat.le_refl _) nC
      exact ⟨.ref D, Hz, (bkX _ _ _ _ I1).turned (t' := z1.toks) (fun b o hb e => (sm.2 b hb).trans e) f0 f1 f3 f4 f5, rfl, fin⟩
    · refine thnF (T.item (X.blk sb Hb scope ce fp) rfl rfl rfl hc i [] z _ Hz (fun _ _ => False) Iz (fpb Iz rfl nz) stz go) fun r z1 ⟨u, hr, h6⟩ => ?_
      subst hr
      refine thnF h6 fun _ z2 ⟨x, H2, I2, r2, y2, st2, n2⟩ => ?_
      refine thnF (ptg.run _ z2 _ H2 x u _ (I2.pinned (fpb I2 rfl n2) (T.obj _ _ st2)) r2 (step x H2 y2)) fun _ z3 ⟨σ3, H3, I3, hw3, q3⟩ => ?_
      refine thnF ((pts_nil (X := X.blk sb Hb scope ce fp)).run _ z3 σ3 H3 _ I3 q3) fun t z4 ⟨H4, I4, q4⟩ => ?_
      have next : ∀ {y : Shared} {Hy : Hp}, Inv (X.blk sb Hb scope ce fp) ([] ++ pinsAt fp z2.heap) σ3 Hy y → Nx Hy → ∃ k, k < n ∧ Pre k y := by
        intro y Hy Iy nx
        obtain ⟨k, hk, wk⟩ := more Hy nx
        have held : ∀ b ∈ fp, ∃ o, z2.heap.get? b = some o ∧ y.heap.get? b = some o ∧ Hy b = none := fun b hb => by
          obtain ⟨o, e, _⟩ := T.obj _ _ st2 b hb
          obtain ⟨p1, p2, _⟩ := Iy.pin (b, o) (List.mem_append_right _ (List.mem_append_right _ (mem_pinsAt hb e)))
          exact ⟨o, e, p1, p2⟩
        refine ⟨k, hk, i + 1, Hy, (Iy.unpinned (pins := [])).weak (by rw [← hw3, wipe_length]) (fun j v e => ?_), T.keep _ _ _ st2 fun b hb o e => ?_, fun b hb => ?_, wk⟩
        · rw [← hw3] at e
          exact (wipe_some e).1
        · obtain ⟨o', e1, e2, _⟩ := held b hb
          rw [e] at e1
          cases e1
          exact e2
        · obtain ⟨_, _, _, e3⟩ := held b hb
          exact e3
      cases t with
      | false =>
        rw [if_neg Bool.false_ne_true] at q4 ⊢
        exact next I4 q4
      | true =>
        rw [if_pos rfl] at q4 ⊢
        refine thnF (pel.run _ z4 σ3 H4 _ I4 q4) fun v z5 ⟨yv, H5, I5, r5, acc, hD5, hz5, nx⟩ => ?_
        exact app_ok (X := X.blk sb Hb scope ce fp) I5 hD5 hz5 r5 fun z6 I6 => next I6 nx
  exact codeAny_compStart_list loop (T.self X.A 0 _ _ _ stc loop)
end
end Fb

set_option maxHeartbeats 4000000
/-! tuple * int, any tuple, any small int -/
namespace Fb
open PySem PySem.Spec PyProof.Rows L2
theorem tuple_mulE (l : Addr) (items : Array Value) (n : Nat) (dd : Option Addr) (sl : Array (Option Value)) (x : Int) (u : Tok) (c0 : (decide (x < -(2 ^ 63)) || decide (x ≥ 2 ^ 63)) = false) (c1 : (items.isEmpty || x == 1) = true) :
    Meets (Builtin.«tuple.__mul__» ⟨[.ref l, .int x u], []⟩) (fun _ R s => s.heap.get? l = some { cls := .type "tuple", dict := dd, data := .seq items n, slots := sl } ∧ R (.ok (.ret (Value.ref l))) s) :=
  .of_wp fun prog w A R s h => by
    obtain ⟨hp, g, d, tk, os⟩ := s
    obtain ⟨hl, h⟩ := h
    have f1 := AutoSeq1.idx_int
    wp_walk using wpAny_loadPart' hl
    repeat (first
      | (refine wpAny_ite_false (decide_eq_false (by rw [c0]; exact Bool.false_ne_true)) ?_; wp_walk using wpAny_loadPart' hl)
      | (refine wpAny_ite_true (decide_eq_true (by rw [c1])) ?_; wp_walk using wpAny_loadPart' hl))
    exact ⟨_, rfl, h⟩
theorem tuple_mulZ (l : Addr) (items : Array Value) (n : Nat) (dd : Option Addr) (sl : Array (Option Value)) (x : Int) (u : Tok) (c0 : (decide (x < -(2 ^ 63)) || decide (x ≥ 2 ^ 63)) = false) (c1 : (items.isEmpty || x == 1) = false) (c2 : (decide (x ≤ 0) || items.isEmpty) = true) :
    Meets (Builtin.«tuple.__mul__» ⟨[.ref l, .int x u], []⟩) (fun _ R s => s.heap.get? l = some { cls := .type "tuple", dict := dd, data := .seq items n, slots := sl } ∧
      R (.ok (.ret (Value.ref s.heap.objs.size))) { s with heap := s.heap.push { cls := Value.type "tuple", data := Data.seq #[] }, toks := s.toks }) :=
  .of_wp fun prog w A R s h => by
    obtain ⟨hp, g, d, tk, os⟩ := s
    obtain ⟨hl, h⟩ := h
    have f1 := AutoSeq1.idx_int
    wp_walk using wpAny_loadPart' hl
    repeat (first
      | (refine wpAny_ite_false (decide_eq_false (by rw [c0]; exact Bool.false_ne_true)) ?_; wp_walk using wpAny_loadPart' hl)
      | (refine wpAny_ite_false (decide_eq_false (by rw [c1]; exact Bool.false_ne_true)) ?_; wp_walk using wpAny_loadPart' hl)
      | (refine wpAny_ite_true (decide_eq_true (by rw [c2])) ?_; wp_walk using wpAny_loadPart' hl))
    exact ⟨_, rfl, h⟩
/-- the empty tuple, times an int -/
def rRepE (K : PySem.W.Frag) : R2 := fun x y H Q => ∃ l k, x = .ref l ∧ y = .int k ∧ SqT K H l [] ∧ -1000 ≤ k ∧ k ≤ 1000 ∧ Q (.ref l) H
theorem op_repE {X : Cx} : OpR X (binaryOp .Mult) (rRepE X.K) := by
  intro pins s σ H x y v u Q I rx ry h
  obtain ⟨l, k, rfl, rfl, hT, k0, k1, q⟩ := h
  cases rx
  obtain ⟨t, rfl⟩ := ry
  obtain ⟨its, r, ⟨⟨cls, dd, data, sl⟩, ho, hc, n, hd⟩, hs⟩ := I.tuple hT
  simp only at hc hd
  subst hc hd
  cases r
  refine wpAny_binaryOp_repeat_ref (T := "tuple") (U := "int") (by decide) ⟨_, ho, rfl⟩ (fun s' => typeIs_int s' k t) noFill_tuple_mul F.fills_int_mul F.slot_int_rmul repeat_tuple F.slot_int_index.lookup
    (call_meets F.slot_int_rmul (typeIs_int s k t) F.entry_int_rmul (F.args_int_rmul_2 _ _) (int_rmul_tuple k t l _ n dd sl)
      ⟨ho, rfl, ⟨_, ho, rfl⟩, call_meets F.slot_tuple_mul ⟨_, ho, rfl⟩ F.entry_tuple_mul (F.args_tuple_mul_2 _ _) (tuple_mulE l _ n dd sl k t (by simp; omega) rfl) ⟨ho, ?_⟩⟩)
  exact ⟨.ref l, H, I, rfl, q⟩
/-- a tuple, times zero or less -/
def rRepZ (K : PySem.W.Frag) : R2 := fun x y H Q => ∃ l k xs, x = .ref l ∧ y = .int k ∧ SqT K H l xs ∧ xs ≠ [] ∧ -1000 ≤ k ∧ k ≤ 0 ∧ ∀ p, H p = none → Q (.ref p) (upd H p (.tup []))
theorem op_repZ {X : Cx} : OpR X (binaryOp .Mult) (rRepZ X.K) := by
  intro pins s σ H x y v u Q I rx ry h
  obtain ⟨l, k, xs, rfl, rfl, hT, hne, k0, k1, q⟩ := h
  cases rx
  obtain ⟨t, rfl⟩ := ry
  obtain ⟨its, r, ⟨⟨cls, dd, data, sl⟩, ho, hc, n, hd⟩, hs⟩ := I.tuple hT
  simp only at hc hd
  subst hc hd
  have hi : its.toArray.isEmpty = false := by
    cases its with
    | nil =>
      have := r.length
      exact absurd (List.eq_nil_of_length_eq_zero this) hne
    | cons a b => rfl
  refine wpAny_binaryOp_repeat_ref (T := "tuple") (U := "int") (by decide) ⟨_, ho, rfl⟩ (fun s' => typeIs_int s' k t) noFill_tuple_mul F.fills_int_mul F.slot_int_rmul repeat_tuple F.slot_int_index.lookup
    (call_meets F.slot_int_rmul (typeIs_int s k t) F.entry_int_rmul (F.args_int_rmul_2 _ _) (int_rmul_tuple k t l _ n dd sl)
      ⟨ho, rfl, ⟨_, ho, rfl⟩, call_meets F.slot_tuple_mul ⟨_, ho, rfl⟩ F.entry_tuple_mul (F.args_tuple_mul_2 _ _) (tuple_mulZ l _ n dd sl k t (by simp; omega) (by rw [hi]; simp; omega) (by simp [k1])) ⟨ho, ?_⟩⟩)
  exact ⟨.ref s.heap.objs.size, upd H s.heap.objs.size (.tup []), I.laid (t' := s.toks) (fun b o e => Heap.get?_push_of_some _ e) (Nat.le_refl _) ⟨by decide, [], .nil, ⟨_, Heap.get?_push_size _ rfl, rfl, 0, rfl⟩⟩, rfl, q _ (I.hok.fresh (Nat.le_refl _))⟩
def rRepTA (K : PySem.W.Frag) : R2 := fun x y H Q => rRepE K x y H Q ∨ (rRepZ K x y H Q ∨ (rRepT1 K x y H Q ∨ rRepT K x y H Q))
theorem k_repTA {K : PySem.W.Frag} {X : Cx} (hk : X.K = K) : OpR X (binaryOp .Mult) (rRepTA K) := hk ▸ op_repE.or (op_repZ.or (op_repT1.or op_repT))
theorem i_repA {K : PySem.W.Frag} {H : Hp} {l : Addr} {xs : List V} {n : Int} {Q : VK} (h : TupAt K H l xs) (h0 : -1000 ≤ n) (hn : n ≤ 1000) (hz : xs.length ≤ 1000) (k : ∀ p H', Same H H' → TupAt K H' p (List.replicate n.toNat xs).flatten → Q (.ref p) H') : rRepTA K (.ref l) (.int n) H Q := by
  have f0 : ∀ m : Nat, (List.replicate m ([] : List V)).flatten = [] := fun m => by
    induction m with
    | zero => rfl
    | succ m ih => rw [List.replicate_succ, List.flatten_cons, ih]; rfl
  by_cases hx : xs = []
  · subst hx
    exact .inl ⟨l, n, rfl, rfl, h.sq, h0, hn, k l H (fun _ _ h => h) (by rw [f0]; exact h)⟩
  · by_cases hz0 : n ≤ 0
    · refine .inr (.inl ⟨l, n, xs, rfl, rfl, h.sq, hx, h0, hz0, fun p np => ?_⟩)
      have e : (List.replicate n.toNat xs).flatten = [] := by
        rw [show n.toNat = 0 by omega]
        rfl
      exact k p _ (Same.new np) (by rw [e]; exact .inl upd_same)
    · by_cases h1 : n = 1
      · subst h1
        refine .inr (.inr (.inl ⟨l, xs, rfl, rfl, h.sq, k l H (fun _ _ h => h) ?_⟩))
        show TupAt K H l ([xs].flatten)
        simpa using h
      · exact .inr (.inr (.inr ⟨l, n, xs, rfl, rfl, h.sq, hx, by omega, hn, hz, fun p np => k p _ (Same.new np) (.inl upd_same)⟩))
end Fb

set_option maxHeartbeats 4000000
/-! sorted(set(xs)): xs a list of ints or of texts -/
namespace Fb
open PySem PySem.Spec PyProof.Rows L2
section
variable {κ : Type} [DecidableEq κ] {P : Program} {w : World} {A : Around} {E : Value → Shared → Prop} {s : Shared} {knd : PySem.KeyKind P w κ} {kf : Value → κ}
/-- the keys of a set's entries -/
def kys (kf : Value → κ) (l : List (Int × Value)) : List κ := l.map fun e => kf e.2
/-- a set with keys of a kind, its table walkable -/
def SetG (knd : PySem.KeyKind P w κ) (kf : Value → κ) (h : Heap) (a : Addr) (S : κ → Bool) (n : Nat) : Prop :=
  ∃ o es ep t, h.get? a = some o ∧ o.ExactSet ∧ o.data = .set es ep t ∧ ElemsOf knd es.toList ∧ (kys kf es.toList).Nodup ∧ (∀ k, S k = true ↔ k ∈ kys kf es.toList) ∧ es.size < scanBound ∧ t.fits es.size = true ∧ es.size = n ∧ Ris t.place.toList ∧ (w.params.followText "set-order" = true ∨ t.led = true)
def KfOk (knd : PySem.KeyKind P w κ) (kf : Value → κ) : Prop := ∀ k v, knd.is k v = true → kf v = k
theorem SetG.at {h h' : Heap} {a : Addr} {S : κ → Bool} {n : Nat} (R : SetG knd kf h a S n) (k : ∀ o, h.get? a = some o → h'.get? a = some o) : SetG knd kf h' a S n := by
  obtain ⟨o, es, ep, t, ho, r⟩ := R; exact ⟨o, es, ep, t, k o ho, r⟩
theorem SetG.congr {h : Heap} {a : Addr} {S S' : κ → Bool} {n : Nat} (R : SetG knd kf h a S n) (e : ∀ k, S' k = S k) : SetG knd kf h a S' n := by
  rw [show S' = S from funext e]; exact R
theorem kys_mem (kok : KfOk knd kf) {l : List (Int × Value)} (g : ElemsOf knd l) (k : κ) : k ∈ kys kf l ↔ ∃ e ∈ l, knd.is k e.2 = true := by
  unfold kys
  rw [List.mem_map]
  constructor
  · rintro ⟨e, he, rfl⟩
    obtain ⟨⟨k0, h1, _⟩, _⟩ := g e he
    exact ⟨e, he, by rw [kok k0 _ h1]; exact h1⟩
  · rintro ⟨e, he, q⟩
    exact ⟨e, he, kok k _ q⟩
theorem setG_tail {g : Bool → Sem Unit} (hg : ∀ (b : Bool) (s₁ : Shared) (Q' : Unit → Shared → Prop), Q' () s₁ → wpAny (model P w) A (g b) Q' E s₁) {a : Addr} {o : Obj} {es : Array (Int × Value)} {ep : Nat} {t : SetTable} (ho : s.heap.get? a = some o) (hex : o.ExactSet) (hd : o.data = .set es ep t)
    {es1 : Array (Int × Value)} {t2 : SetTable} {S' : κ → Bool} (g1 : ElemsOf knd es1.toList) (nd1 : (kys kf es1.toList).Nodup) (m1 : ∀ k, S' k = true ↔ k ∈ kys kf es1.toList) (hb1 : es1.size < scanBound) (hf2 : t2.fits es1.size = true) (hr : Ris t2.place.toList) (hl : w.params.followText "set-order" = true ∨ t2.led = true) {wasDummy : Bool} {R : Option Bool → Shared → Prop}
    (hR : ∀ h', Heap.SameBut a s.heap h' → SetG knd kf h' a S' es1.size → R (some true) { s with heap := h' }) :
    wpAny (model P w) A (do storeSet a es1 t2; if (!wasDummy && t2.tooFull) = true then do g (relayAll t2 es1 (SetTable.grown es1.size)).2.2; storeSet a (relayAll t2 es1 (SetTable.grown es1.size)).1 (relayAll t2 es1 (SetTable.grown es1.size)).2.1; pure (some true) else pure (some true)) R E s := by
  refine wpAny_bind (wpAny_storeSet_of ho hd ?_ (fits_of_scanBound hb1)); have ho1 := store_at (es' := es1) (t' := t2) ho hd
  have sb1 := Heap.SameBut.update s.heap a (Obj.putSet es1 t2); split
  · have pm := relayAll_perm t2 es1 (SetTable.grown es1.size); have hf3 := relayAll_fits t2 es1 (SetTable.grown es1.size)
    have hr3 := relayAll_ris t2 es1 (SetTable.grown es1.size); have hl3 := relayAll_led t2 es1 (SetTable.grown es1.size)
    generalize relayAll t2 es1 (SetTable.grown es1.size) = Z at pm hf3 hr3 hl3 ⊢; obtain ⟨es2, t3, gave⟩ := Z; dsimp only at pm hf3 hr3 hl3 ⊢
    have hsz : es2.size = es1.size := by
      have := pm.length_eq; rwa [Array.length_toList, Array.length_toList] at this
    have hb2 : es2.size < scanBound := hsz ▸ hb1
    refine wpAny_bind (hg _ _ _ (wpAny_bind (wpAny_storeSet_of ho1 rfl ?_ (fits_of_scanBound hb2)))); have ho2 := store_at (es' := es2) (t' := t3) ho1 rfl
    refine wpAny_pure (hR _ (sb1.trans (Heap.SameBut.update _ a _)) ⟨_, es2, _, t3, ho2, hex, rfl, fun e he => g1 e (pm.mem_iff.mp he), (pm.map _).nodup_iff.mpr nd1, fun k => (m1 k).trans (pm.map _).mem_iff.symm, hb2, hf3, hsz, hr3, hl.imp id fun z => by rw [hl3]; exact z⟩)
  · exact wpAny_pure (hR _ sb1 ⟨_, es1, _, t2, ho1, hex, rfl, g1, nd1, m1, hb1, hf2, rfl, hr, hl⟩)
theorem setG_add (kok : KfOk knd kf) {a : Addr} {S : κ → Bool} {n : Nat} {k : κ} {v : Value} {Q : Bool → Shared → Prop} (R : SetG knd kf s.heap a S n) (hkey : knd.is k v = true) (hsc : v.scannable = true) (room : n + 1 < scanBound)
    (hQ : ∀ h', Heap.SameBut a s.heap h' → SetG knd kf h' a (fun j => S j || decide (j = k)) (if S k = true then n else n + 1) → Q (!S k) { s with heap := h' }) : wpAny (model P w) A (setAddHashed a v (knd.hash k)) Q E s := by
  obtain ⟨o, es, ep, t, ho, hex, hd, hel, nd, hm, hb, hf, hn, hr, hl⟩ := R
  unfold setAddHashed setAddHashedIn; refine wpAny_holding (wpAny_bind (wpAny_setState_of ho hd hf ?_)); dsimp only
  rw [byScan_of hsc hb hel]; simp only [↓reduceIte]
  unfold setAddByScan; refine wpAny_bind (wpAny_bind (wpAny_rule (wpAny_bind (wpAny_setScan_of hkey ho hd hf hel ?_))))
  cases hfi : List.findIdx? (fun e => knd.is k e.2) es.toList with
  | some j =>
    obtain ⟨hj, pj, _⟩ := List.findIdx?_eq_some_iff_getElem.mp hfi; dsimp only
    have hSk : S k = true := (hm k).2 ((kys_mem kok hel k).2 ⟨es.toList[j], List.getElem_mem hj, pj⟩)
    have q := hQ s.heap (Heap.SameBut.refl a s.heap) ⟨o, es, ep, t, ho, hex, hd, hel, nd, fun i => by
      rw [Bool.or_eq_true, decide_eq_true_eq, ← hm i]; exact ⟨fun z => z.elim id (fun e => e ▸ hSk), .inl⟩, hb, hf, by rw [if_pos hSk]; exact hn, hr, hl⟩
    rw [hSk] at q; exact wpAny_pure (wpAny_pure q)
  | none =>
    dsimp only
    have hnk : k ∉ kys kf es.toList := fun z => by
      obtain ⟨e, he, q⟩ := (kys_mem kok hel k).1 z; have c := List.findIdx?_eq_none_iff.mp hfi e he; rw [q] at c; cases c
    have hSk : S k = false := by
      cases q : S k with
      | false => rfl
      | true => exact absurd ((hm k).1 q) hnk
    have hgw : ∀ (b : Bool) {s₁ : Shared} {Q' : Unit → Shared → Prop}, Q' () s₁ → wpAny (model P w) A (match b with | true => rule "set.scan.the-table-gave-way" | false => pure ()) Q' E s₁ := by
      intro b s₁ Q' q; cases b <;> first | exact wpAny_pure q | exact wpAny_rule q
    have pm := layNew_perm t es (knd.hash k) v; have hf1 := layNew_fits t es (knd.hash k) v; have hr1 := layNew_ris t es (knd.hash k) v hr; have hl1 := layNew_led t es (knd.hash k) v
    generalize layNew t es (knd.hash k) v = Z at pm hf1 hr1 hl1 ⊢; obtain ⟨es1, t1, wasDummy, gave⟩ := Z; dsimp only at pm hf1 hr1 hl1 ⊢
    rw [Array.toList_push] at pm; have pc : es1.toList.Perm ((knd.hash k, v) :: es.toList) := pm.trans (List.perm_append_singleton _ _)
    have pk : (kys kf es1.toList).Perm (k :: kys kf es.toList) := by
      have q := pc.map fun e : Int × Value => kf e.2
      rw [List.map_cons, show kf (knd.hash k, v).2 = k from kok k v hkey] at q
      exact q
    have g1 : ElemsOf knd es1.toList := fun e he => by
      rcases List.mem_cons.mp (pc.mem_iff.mp he) with z | z
      · rw [z]; exact ⟨⟨k, hkey, rfl⟩, hsc⟩
      · exact hel e z
    have nd1 : (kys kf es1.toList).Nodup := pk.nodup_iff.mpr (List.nodup_cons.mpr ⟨hnk, nd⟩)
    have m1 : ∀ i, (S i || decide (i = k)) = true ↔ i ∈ kys kf es1.toList := fun i => by
      rw [Bool.or_eq_true, decide_eq_true_eq, hm i, pk.mem_iff, List.mem_cons]; exact Or.comm
    have hsz : es1.size = n + 1 := by
      have := pc.length_eq; rw [List.length_cons, Array.length_toList, Array.length_toList, hn] at this; exact this
    have hb1 : es1.size < scanBound := hsz ▸ room
    have hled : w.params.followText "set-order" = true ∨ t1.led = true := hl.imp id fun z => by rw [hl1]; exact z
    have fin : ∀ h', Heap.SameBut a s.heap h' → SetG knd kf h' a (fun j => S j || decide (j = k)) es1.size → Q true { s with heap := h' } := fun h' sb r => by
      have q := hQ h' sb; rw [hSk] at q; rw [hsz] at r; exact q r
    refine wpAny_bind (hgw _ ?_); split
    · refine wpAny_bind ?_; rw [hashByValue_scannable 8 hsc]
      refine wpAny_pure (setG_tail ?_ ho hex hd g1 nd1 m1 hb1 ?_ ?_ ?_ ?_)
      · intro b s₁ Q' q; cases b
        · first | exact wpAny_pure q | exact wpAny_rule q
        · first | exact wpAny_pure q | exact wpAny_rule q
      · first | (split <;> first | exact hf1 | exact SetTable.fits_plain_off hf1) | exact hf1
      · first | (split <;> exact hr1) | exact hr1
      · first | (split <;> exact hled) | exact hled
      · intro h' sb r; dsimp only; exact wpAny_pure (fin h' sb r)
    · refine wpAny_bind (wpAny_pure ?_); simp only [↓reduceIte]
      refine setG_tail ?_ ho hex hd g1 nd1 m1 hb1 hf1 hr1 hled ?_
      · intro b s₁ Q' q; cases b
        · first | exact wpAny_pure q | exact wpAny_rule q
        · first | exact wpAny_pure q | exact wpAny_rule q
      · intro h' sb r; dsimp only; exact wpAny_pure (fin h' sb r)
theorem setG_fresh {h : Heap} {a : Addr} {ks : List κ} (ho : h.get? a = some { cls := .type "set", dict := none, data := .set #[] 0 (.fresh 0 0 (!w.params.followText "set-order")) }) : SetG knd kf h a (fun j => decide (j ∈ ks.take 0)) 0 := by
  refine ⟨_, #[], 0, _, ho, ⟨rfl, rfl, rfl⟩, rfl, (fun e he => by simp at he), (by simp [kys]), (fun k => by simp [kys]), (by decide), (by rfl), rfl, List.Pairwise.nil, ?_⟩
  show _ ∨ (!w.params.followText "set-order") = true
  cases w.params.followText "set-order" <;> simp
theorem setG_update (kok : KfOk knd kf) {I : Addr} {fp wr : List Addr} {G : Array GenState → Array GenState → Prop} {n : Nat} {Pv : Nat → Value → Prop} {St : Nat → Shared → Prop} {R : Result → Shared → Prop}
    (W : WalksS P w A.in1 I fp wr G n Pv St) (S : Addr) (hSf : S ∉ fp) (ks : List κ) (hn : n = ks.length) (hb : ks.length + 1 < scanBound) (hval : ∀ i v, Pv i v → ∃ k, ks[i]? = some k ∧ knd.is k v = true ∧ v.scannable = true) :
    ∀ (k i : Nat) (s : Shared), n - i = k → i ≤ n → St i s → (∃ c, c ≤ i ∧ SetG knd kf s.heap S (fun j => decide (j ∈ ks.take i)) c) → (∀ s' c, Moved (S :: wr) G s s' → c ≤ n → SetG knd kf s'.heap S (fun j => decide (j ∈ ks)) c → R (.ok (.ret .none)) s') → codeAny (model P w) A (.builtin "set.update.loop" ⟨[.ref S, .ref I], []⟩) R s := by
  have hSw : S ∉ wr := fun h => hSf (W.sub _ h)
  have hsub : ∀ b ∈ wr, b ∈ S :: wr := fun b hb => List.mem_cons_of_mem _ hb
  intro k; induction k with
  | zero =>
    intro i s hk' hi hst ⟨c, hc, hS⟩ hR
    obtain rfl : i = n := by omega
    refine codeAny_builtin F.entry_set_update_loop ?_; rw [Around.under_plainId F.plain_set_update_loop _]
    show wpAny _ A.in1 (pyNext (.ref I) >>= _) _ _ s
    refine wpAny_bind (W.done s _ _ hst fun s' hm => ?_); show wpAny _ A.in1 (ret Value.none) _ _ s'
    rw [show ks.take i = ks from List.take_of_length_le (by omega)] at hS
    exact wpAny_pure (hR s' c (hm.mono hsub) hc (hS.at fun o e => hm.heap S o hSw e))
  | succ k ih =>
    intro i s hk' hi hst ⟨c, hc, hS⟩ hR
    have hlt : i < n := by omega
    refine codeAny_builtin F.entry_set_update_loop ?_; rw [Around.under_plainId F.plain_set_update_loop _]
    show wpAny _ A.in1 (pyNext (.ref I) >>= _) _ _ s
    refine wpAny_bind (W.item i s _ _ hlt hst fun v s' hP hst' hm => ?_)
    obtain ⟨z, hz, hzk, hsc⟩ := hval i v hP
    have hS' : SetG knd kf s'.heap S (fun j => decide (j ∈ ks.take i)) c := hS.at fun o e => hm.heap S o hSw e
    show wpAny _ A.in1 (holding [v] (setAdd S v) >>= _) _ _ s'
    refine wpAny_bind (wpAny_holding ?_); unfold setAdd
    refine wpAny_holding (wpAny_bind (knd.pyHash (k := z) hzk ?_))
    refine setG_add kok (s := { s' with toks := s'.toks + 1 }) hS' hzk hsc (by omega) fun h' hsb hS2 => ?_
    have hS3 : SetG knd kf h' S (fun j => decide (j ∈ ks.take (i + 1))) (if decide (z ∈ ks.take i) = true then c else c + 1) := hS2.congr fun j => by
      rw [List.take_add_one, hz]; simp [List.mem_append]
    have hc3 : (if decide (z ∈ ks.take i) = true then c else c + 1) ≤ i + 1 := by split <;> omega
    refine wpAny_pure ⟨plainId_quiet F.plain_set_update_loop _, ih (i + 1) _ (by omega) hlt (W.frame _ s' _ _ hst' (Nat.le_succ _) fun b hb o e => ?_) ⟨_, hc3, hS3⟩ fun s'' c2 hm'' hc'' hS'' => ?_⟩
    · rw [hsb.2 b (fun h : b = S => hSf (h ▸ hb))]; exact e
    · refine hR s'' c2 (Moved.trans W.gtrans ((hm.mono hsub).then_heap (Nat.le_succ _) fun b o hb e => ?_) hm'') hc'' hS''
      rw [hsb.2 b (fun h : b = S => hb (h ▸ List.mem_cons_self))]; exact e
/-- set(xs), xs a list -/
theorem call_setG (kok : KfOk knd kf) {l : Addr} {items : Array Value} (ks : List κ) {Q : Value → Shared → Prop} (hh : A.handled = none) (hl : s.heap.IsList l items) (hisz : items.size = ks.length) (hval : ∀ (i : Nat) (v : Value), items[i]? = some v → ∃ k, ks[i]? = some k ∧ knd.is k v = true ∧ v.scannable = true) (hb : ks.length + 1 < scanBound)
    (h : ∀ (h' : Heap) (tk : Nat) c, c ≤ ks.length → SetG knd kf h' s.heap.objs.size (fun j => decide (j ∈ ks)) c → (∀ b o, b < s.heap.objs.size → s.heap.get? b = some o → h'.get? b = some o) → s.heap.objs.size ≤ h'.objs.size → Q (.ref s.heap.objs.size) { s with heap := h', toks := tk }) : wpAny (model P w) A (call (.type "set") [.ref l]) Q E s := by
  obtain ⟨c, tl, hmro⟩ := F.called_set.mro; have hmade := F.called_set.made; have hsub := F.called_set.sub
  refine wpAny_call (codeAny_of_tree ?_)
  show wpAny _ _ (callAny (.type "set") _) _ _ _
  refine wpAny_pure ⟨Code.quiet_builtin _ (by decide +kernel), codeAny_builtin F.entry_type_call ?_⟩; rw [Around.under_plain (weight_type_call_type "set" [.ref l] []) rfl]
  have h1 := F.called_set.notType; have h2 := F.called_set.canCreate; have hct := F.typeCall_set_1 (.ref l)
  repeat (any_goals (first | assumption | wp_step))
  refine codeAny_mono (code_set_led1 (.ref l) (E := E) (Q₁ := fun obj s₁ => obj = .ref s.heap.objs.size ∧ s₁ = { s with heap := s.heap.push { cls := .type "set", dict := none, data := .set #[] 0 (.fresh 0 0 (!w.params.followText "set-order")) } }) ⟨rfl, rfl⟩) fun r s₁ hr => ?_
  cases r with
  | error e => exact hr
  | ok fl =>
    cases fl with
    | ret obj =>
      obtain ⟨rfl, rfl⟩ := hr
      have hS : (s.heap.push { cls := .type "set", dict := none, data := .set #[] 0 (.fresh 0 0 (!w.params.followText "set-order")) }).get? s.heap.objs.size = some { cls := .type "set", dict := none, data := .set #[] 0 (.fresh 0 0 (!w.params.followText "set-order")) } := Heap.get?_push_size _ rfl
      have hT : Shared.TypeIs { s with heap := s.heap.push { cls := .type "set", dict := none, data := .set #[] 0 (.fresh 0 0 (!w.params.followText "set-order")) } } (.ref s.heap.objs.size) "set" := ⟨_, hS, rfl⟩
      have hli := F.called_set.init.lookup; have hbi := F.called_set.init.bind (.ref s.heap.objs.size)
      repeat (any_goals (first | assumption | wp_step))
      refine codeAny_mono (codeAny_call_builtin (R := wants (fun r s₂ => r = .none ∧ ∃ h' tk c, s₂ = { s with heap := h', toks := tk } ∧ c ≤ ks.length ∧ SetG knd kf h' s.heap.objs.size (fun j => decide (j ∈ ks)) c ∧ (∀ b o, b < s.heap.objs.size → s.heap.get? b = some o → h'.get? b = some o) ∧ s.heap.objs.size ≤ h'.objs.size) E) F.called_set.init.plain F.entry_set_init (check_set_init_1 hT ?_)) fun r₂ s₂ hr₂ => ?_
      · obtain ⟨ol, hol, hcl, nl, hdl⟩ := hl; obtain ⟨ocls, odict, odata, oslots⟩ := ol
        simp only at hcl hdl; subst hcl; subst hdl
        have hol' : (s.heap.push { cls := .type "set", dict := none, data := .set #[] 0 (.fresh 0 0 (!w.params.followText "set-order")) }).get? l = some { cls := .type "list", dict := odict, data := .seq items nl, slots := oslots } := Heap.get?_push_of_some _ hol
        have hsls := F.sub_list_set; have hslf := F.sub_list_frozenset
        have hne : (Value.type "list" == Value.type "dict") = false := by decide
        have hl1 : (s.heap.push { cls := .type "set", dict := none, data := .set #[] 0 (.fresh 0 0 (!w.params.followText "set-order")) }).IsList l items := ⟨_, hol', rfl, nl, rfl⟩
        unfold Builtin.«set.__init__» noKeywords Builtin.Frozenset.updateFrom
        generalize hPI : pyIter = PI
        wp_walk
        subst hPI
        refine wpAny_pyIter_list hl1 (wpAny_bind (wpAny_runValue ?_))
        have hlS : l < s.heap.objs.size := Heap.lt_size hol
        have hh3 : A.in1.in1.in1.handled = none := by simp [hh]
        have hneI : l ≠ (s.heap.push { cls := .type "set", dict := none, data := .set #[] 0 (.fresh 0 0 (!w.params.followText "set-order")) }).objs.size := by
          rw [Heap.size_push]; exact Nat.ne_of_lt (Nat.lt_succ_of_lt hlS)
        have hSf : s.heap.objs.size ∉ [(s.heap.push { cls := .type "set", dict := none, data := .set #[] 0 (.fresh 0 0 (!w.params.followText "set-order")) }).objs.size, l] := by
          rw [Heap.size_push]; simp only [List.mem_cons, List.mem_singleton, List.not_mem_nil, or_false, not_or]; exact ⟨Nat.ne_of_lt (Nat.lt_succ_self _), Nat.ne_of_gt hlS⟩
        refine setG_update kok ((Walks.list hh3 _ l hneI items).toS) s.heap.objs.size hSf ks hisz hb hval (items.size - 0) 0 _ (by omega) (Nat.zero_le _) ⟨⟨_, Heap.get?_push_size _ rfl, rfl, rfl⟩, (hl1.push _)⟩ ⟨0, Nat.le_refl _, ?hS0⟩ ?hR
        case hS0 => exact setG_fresh (Heap.get?_push_of_some _ hS)
        case hR =>
          intro s' c hm hc hS'
          obtain ⟨h', g2, d', tk', os'⟩ := s'
          have eg : g2 = s.gens := hm.gens
          have ed : d' = s.drawn := hm.drawn
          have eo : os' = s.os := hm.os
          subst eg; subst ed; subst eo
          show wpAny _ _ _ _ _ _
          refine wpAny_pure ?_
          show wpAny _ _ (ret Value.none) _ _ _
          have hk : ∀ b o, b < s.heap.objs.size → s.heap.get? b = some o → h'.get? b = some o := fun b o hb e => by
            refine hm.heap b o (fun z => ?_) (Heap.get?_push_of_some _ (Heap.get?_push_of_some _ e))
            rcases List.mem_cons.mp z with z | z
            · exact absurd hb (by rw [z]; exact Nat.lt_irrefl _)
            · have q := List.mem_singleton.mp z
              rw [Heap.size_push] at q
              exact absurd hb (by rw [q]; exact Nat.not_lt_of_le (Nat.le_succ _))
          refine wpAny_pure ⟨rfl, h', tk', c, rfl, hisz ▸ hc, hS', hk, ?_⟩
          obtain ⟨o, _, _, _, ho, _⟩ := hS'
          exact Nat.le_of_lt (Heap.lt_size ho)
      · cases r₂ with
        | error e => exact hr₂
        | ok fl₂ =>
          cases fl₂ with
          | ret r =>
            obtain ⟨rfl, h', tk, c, rfl, hc, hS', hk', hz'⟩ := hr₂
            repeat (any_goals (first | assumption | wp_step))
            exact h _ _ _ hc hS' hk' hz'
          | _ => exact hr₂.elim
    | _ => exact hr.elim
end
/-! the two kinds -/
def valI (v : Value) : Int := match v with
  | .int k _ => k
  | _ => 0
def vStr (v : Value) : Str := match v with
  | .str x _ => x
  | _ => Str.empty
section
variable {P : Program} {w : World} {A : Around} {E : Value → Shared → Prop} {s : Shared}
theorem kf_int : KfOk (PySem.intKind P w) valI := fun k v h => by
  obtain ⟨t, rfl⟩ := Value.isInt_shape h
  rfl
theorem kf_str : KfOk (PySem.strKind P w) vStr := fun k v h => by
  obtain ⟨t, rfl⟩ := Value.isStrOf_shape h
  rfl
theorem intsAre_v : ∀ {vs : List Value}, (∀ v ∈ vs, ∃ k t, v = Value.int k t) → IntsAre vs (vs.map valI)
  | [], _ => .nil
  | v :: vs, h => by
    obtain ⟨k, t, rfl⟩ := h v (List.mem_cons_self ..)
    exact .cons k t (intsAre_v fun u hu => h u (List.mem_cons_of_mem _ hu))
theorem strsAre_v : ∀ {vs : List Value}, (∀ v ∈ vs, ∃ k t, v = Value.str k t) → StrsAre vs (vs.map vStr)
  | [], _ => .nil
  | v :: vs, h => by
    obtain ⟨k, t, rfl⟩ := h v (List.mem_cons_self ..)
    exact .cons k t (strsAre_v fun u hu => h u (List.mem_cons_of_mem _ hu))
theorem nodup_lt : ∀ {l : List Int}, l.Pairwise (· ≤ ·) → l.Nodup → l.Pairwise (· < ·)
  | [], _, _ => .nil
  | x :: l, h, d => by
    obtain ⟨h1, h2⟩ := List.pairwise_cons.mp h
    obtain ⟨d1, d2⟩ := List.nodup_cons.mp d
    exact .cons (fun y hy => Int.lt_iff_le_and_ne.mpr ⟨h1 y hy, fun z => d1 (z ▸ hy)⟩) (nodup_lt h2 d2)
/-- what stands behind sorted(a set): old objects as before, a new list -/
structure SortedTo (s s' : Shared) (p : Addr) (out : List Value) : Prop where
  kp : ∀ b o, s.heap.get? b = some o → s'.heap.get? b = some o
  gn : s'.gens = s.gens
  os : s'.os = s.os
  nw : s.heap.objs.size ≤ p
  ob : ∃ c, s'.heap.get? p = some (seqObj "list" out.toArray c)
theorem sortedTo_of {s s1 : Shared} {vs : List Value} {out : Array Value} (k1 : ∀ b o, s.heap.get? b = some o → s1.heap.get? b = some o) (hz : s.heap.objs.size ≤ s1.heap.objs.size) (g1 : s1.gens = s.gens) (o1 : s1.os = s.os) :
    SortedTo s { s1 with heap := sortedHeap (s1.heap.push (seqObj "list" vs.toArray 0)) s1.heap.objs.size vs out } s1.heap.objs.size out.toList := by
  have hoL : (s1.heap.push (seqObj "list" vs.toArray 0)).get? s1.heap.objs.size = some (seqObj "list" vs.toArray 0) := Heap.get?_push_size _ rfl
  obtain ⟨c, hc⟩ := sortedHeap_at (vs := vs) (out := out) hoL
  refine ⟨fun b u e => ?_, g1, o1, hz, c, by rw [Array.toArray_toList]; exact hc⟩
  have q := k1 b u e
  have hlt := Heap.lt_size q
  show (sortedHeap (s1.heap.push (seqObj "list" vs.toArray 0)) s1.heap.objs.size vs out).get? b = some u
  rw [sortedHeap_old (Nat.ne_of_lt hlt) (by rw [size_push']; exact Nat.lt_succ_of_lt hlt)]
  exact Heap.get?_push_of_some _ q
theorem sorted_setI {a : Addr} {S : Int → Bool} {n : Nat} {Q : Value → Shared → Prop} (R : SetG (PySem.intKind P w) valI s.heap a S n) (hh : A.handled = none) (h64 : n < 64)
    (hQ : ∀ s' p (out : List Value) (ns : List Int), SortedTo s s' p out → IntsAre out ns → ns.Pairwise (· < ·) → (∀ k, k ∈ ns ↔ S k = true) → ns.length = n → Q (.ref p) s') : wpAny (model P w) A (call (.builtin "sorted") [.ref a]) Q E s := by
  obtain ⟨o, es, ep, t, ho, hex, hd, g, nd, hm, hb, hf, hn, hr, hl⟩ := R
  refine Calls.call_function_entry kind_sorted plain_sorted entry_sorted (args_sorted1 _) ?_
  unfold Builtin.«sorted»
  refine wpAny_bind (m := checkCount "sorted" 1 1 _) (wpAny_pure (wpAny_bind (collect_set (A := A.in1) hh ⟨o, ho, hex.1, hd⟩ hf hb hr hl fun s1 vs k1 hz g1 o1 pm => ?_)))
  have hvl : vs.length = n := by rw [pm.length_eq, List.length_map, Array.length_toList]; exact hn
  have hI := intsAre_v (vs := vs) fun v hv => by
    obtain ⟨e, he, q⟩ := List.mem_map.mp (pm.mem_iff.mp hv)
    obtain ⟨⟨k, h1, _⟩, _⟩ := g e he
    obtain ⟨tk, h2⟩ := Value.isInt_shape h1
    exact ⟨k, tk, by rw [← q]; exact h2⟩
  have pk : (vs.map valI).Perm (kys valI es.toList) := by
    have q := pm.map valI
    rw [List.map_map] at q
    exact q
  refine wpAny_bind (wpAny_newList ?_ (by rw [hvl, sizeLine_eq]; omega))
  have hoL : (s1.heap.push (seqObj "list" vs.toArray 0)).get? s1.heap.objs.size = some (seqObj "list" vs.toArray 0) := Heap.get?_push_size _ rfl
  refine wpAny_bind (wpAny_holding (wpAny_call_entry slot_list_sort ⟨_, hoL, rfl⟩ entry_list_sort (list_sort_tree hoL hI (by rw [hvl]; exact h64) fun out ns' a1 a2 a3 => ⟨_, rfl, ?_⟩) (args_list_sort _)))
  have pn : ns'.Perm (kys valI es.toList) := a2.trans pk
  exact wpAny_pure ⟨_, rfl, hQ _ s1.heap.objs.size out.toList ns' (sortedTo_of k1 hz g1 o1) a1 (nodup_lt a3 (pn.nodup_iff.mpr nd)) (fun k => by rw [pn.mem_iff, ← hm k]) (by rw [a2.length_eq, List.length_map]; exact hvl)⟩
theorem sorted_setS {a : Addr} {S : Str → Bool} {n : Nat} {Q : Value → Shared → Prop} (R : SetG (PySem.strKind P w) vStr s.heap a S n) (hh : A.handled = none) (h64 : n < 64)
    (hQ : ∀ s' p (out : List Value) (ns : List Str), SortedTo s s' p out → StrsAre out ns → ns.Nodup → sortedS ns = true → (∀ k, k ∈ ns ↔ S k = true) → ns.length = n → Q (.ref p) s') : wpAny (model P w) A (call (.builtin "sorted") [.ref a]) Q E s := by
  obtain ⟨o, es, ep, t, ho, hex, hd, g, nd, hm, hb, hf, hn, hr, hl⟩ := R
  refine Calls.call_function_entry kind_sorted plain_sorted entry_sorted (args_sorted1 _) ?_
  unfold Builtin.«sorted»
  refine wpAny_bind (m := checkCount "sorted" 1 1 _) (wpAny_pure (wpAny_bind (collect_set (A := A.in1) hh ⟨o, ho, hex.1, hd⟩ hf hb hr hl fun s1 vs k1 hz g1 o1 pm => ?_)))
  have hvl : vs.length = n := by rw [pm.length_eq, List.length_map, Array.length_toList]; exact hn
  have hI := strsAre_v (vs := vs) fun v hv => by
    obtain ⟨e, he, q⟩ := List.mem_map.mp (pm.mem_iff.mp hv)
    obtain ⟨⟨k, h1, _⟩, _⟩ := g e he
    obtain ⟨tk, h2⟩ := Value.isStrOf_shape h1
    exact ⟨k, tk, by rw [← q]; exact h2⟩
  have pk : (vs.map vStr).Perm (kys vStr es.toList) := by
    have q := pm.map vStr
    rw [List.map_map] at q
    exact q
  refine wpAny_bind (wpAny_newList ?_ (by rw [hvl, sizeLine_eq]; omega))
  have hoL : (s1.heap.push (seqObj "list" vs.toArray 0)).get? s1.heap.objs.size = some (seqObj "list" vs.toArray 0) := Heap.get?_push_size _ rfl
  refine wpAny_bind (wpAny_holding (wpAny_call_entry slot_list_sort ⟨_, hoL, rfl⟩ entry_list_sort (list_sort_treeK strKind_oneLt hoL hI.keysOf (fun v₁ v₂ rest e => keyKind_strs (by rw [← e]; exact hI)) (by rw [hvl]; exact h64) fun st' hp hs => ⟨_, rfl, ?_⟩) (args_list_sort _)))
  obtain ⟨ys, b1, b2, b3⟩ := sorted_out_str hI hp hs
  have pn : ys.Perm (kys vStr es.toList) := b2.trans pk
  exact wpAny_pure ⟨_, rfl, hQ _ s1.heap.objs.size _ ys (sortedTo_of k1 hz g1 o1) b1 (pn.nodup_iff.mpr nd) b3 (fun k => by rw [pn.mem_iff, ← hm k]) (by rw [b2.length_eq, List.length_map]; exact hvl)⟩
end
/-! over the layer -/
section
variable {X : Cx} {a : Expr} {ta : TE} {p p2 q pos : Pos}
/-- sorted(set(xs)), ints: fewer than 64 of them differ -/
def tSortSetI (K : PySem.W.Frag) (ta : TE) : TE := fun σ H Q => ta σ H fun x H1 => ∃ (l : Addr) (ns : List Int), x = V.ref l ∧ SqL K H1 l (ns.map V.int) ∧ ns.length ≤ 1000 ∧ (∀ ys : List Int, ys.Nodup → (∀ k ∈ ys, k ∈ ns) → ys.length < 64) ∧
  ∀ (ys : List Int) (t : Addr), ys.Pairwise (· < ·) → (∀ k, k ∈ ys ↔ k ∈ ns) → H1 t = none → Q (.ref t) (upd H1 t (.lst (ys.map V.int)))
def tSortSetS (K : PySem.W.Frag) (ta : TE) : TE := fun σ H Q => ta σ H fun x H1 => ∃ (l : Addr) (ns : List Str), x = V.ref l ∧ SqL K H1 l (ns.map V.str) ∧ ns.length ≤ 1000 ∧ (∀ ys : List Str, ys.Nodup → (∀ k ∈ ys, k ∈ ns) → ys.length < 64) ∧
  ∀ (ys : List Str) (t : Addr), ys.Nodup → sortedS ys = true → (∀ k, k ∈ ys ↔ k ∈ ns) → H1 t = none → Q (.ref t) (upd H1 t (.lst (ys.map V.str)))
theorem SetG.ndk {κ : Type} [DecidableEq κ] {P : Program} {w : World} {knd : PySem.KeyKind P w κ} {kf : Value → κ} {h : Heap} {a : Addr} {S : κ → Bool} {n : Nat} (R : SetG knd kf h a S n) : ∃ l : List κ, l.Nodup ∧ (∀ k, k ∈ l ↔ S k = true) ∧ l.length = n := by
  obtain ⟨o, es, ep, t, ho, hex, hd, g, nd, hm, hb, hf, hn, hr, hl⟩ := R
  exact ⟨kys kf es.toList, nd, fun k => (hm k).symm, by unfold kys; rw [List.length_map, Array.length_toList]; exact hn⟩
theorem fin_sort {pins : List (Addr × Obj)} {σ : L2.St} {H1 : Hp} {s1 s' : Shared} {Q : VK} {h' : Heap} {tk : Nat} {t : Addr} {out : List Value} {vs : List V} (I1 : Inv X pins σ H1 s1) (hk : ∀ b o, b < s1.heap.objs.size → s1.heap.get? b = some o → h'.get? b = some o)
    (hz : s1.heap.objs.size ≤ h'.objs.size) (st : SortedTo { s1 with heap := h', toks := tk } s' t out) (rv : Vals vs out) (hlen : vs.length ≤ sizeLine) (h : H1 t = none → Q (.ref t) (upd H1 t (.lst vs))) : EP X pins σ Q (.ref t) s' := by
  obtain ⟨c, hob⟩ := st.ob
  have hle : s1.heap.objs.size ≤ t := Nat.le_trans hz st.nw
  have hn : H1 t = none := I1.hok.fresh hle
  have kk : ∀ b o, s1.heap.get? b = some o → s'.heap.get? b = some o := fun b o e => st.kp b o (hk b o (Heap.lt_size e) e)
  have J : Inv X pins σ (upd H1 t (.lst vs)) { s1 with heap := s'.heap, gens := s'.gens, drawn := s'.drawn, toks := s'.toks } :=
    I1.call (ch := []) (Un.laid kk hle hn) (I1.hok.laid kk hle ⟨hlen, out, c, rv, hob⟩) (by rw [st.gn]; exact I1.bare) (fun _ z => nomatch z)
  have e : s' = { s1 with heap := s'.heap, gens := s'.gens, drawn := s'.drawn, toks := s'.toks } := by
    have := st.os
    cases s'
    cases s1
    cases this
    rfl
  rw [e]
  exact ⟨.ref t, _, J, rfl, h hn⟩
theorem pe_sortSetI (hc : X.calm = true) (hg : Gl X "sorted") (hm : X.mg "sorted" = none) (hg2 : Gl X "set") (hm2 : X.mg "set" = none) (ha : PE X a ta)
    (na : starEach [a] X.env = (false, eval a X.env) :: starEach [] X.env := by rfl) : PE X (.Call (.Name "sorted" p) [.Call (.Name "set" p2) [a] [] q] [] pos) (tSortSetI X.K ta) := by
  refine ⟨fun pins s σ H Q I h => ?_⟩
  refine Call_ (ld_blt I hg hm PyProof.Rows.boot_sorted (PyProof.Rows.callWith_builtin1 (PyProof.Rows.args_cons ?_ rfl) rfl rfl))
  refine Call_ (ld_blt I hg2 hm2 PyProof.Rows.boot_set (PyProof.Rows.callWith_type1 (PyProof.Rows.args_cons (thn (ha.run pins s σ H _ I h) fun v s1 ⟨x, H1, I1, r1, q1⟩ => PyProof.Rows.args_nil ?_) na) na rfl))
  obtain ⟨l, ns, rfl, hq, h1, hd, q1⟩ := q1
  cases r1
  obtain ⟨its, r, pl, hz⟩ := I1.list hq
  have hl : its.toArray.size = ns.length := by rw [List.size_toArray, ← r.length, List.length_map]
  refine call_setG kf_int ns (I1.ok.hd hc) pl.isList hl (fun i v hv => ?_) (by unfold scanBound; omega) fun h' tk c hcl hS hk hz' => ?_
  · have hi : i < ns.length := by
      have := (Array.getElem?_eq_some_iff.mp hv).1
      omega
    obtain ⟨u, hu, ru⟩ := r.get (i := i) (x := .int ns[i]) (by simp [hi])
    have : v = u := by
      rw [List.getElem?_toArray, hu] at hv
      exact (Option.some.inj hv).symm
    subst this
    obtain ⟨t, rfl⟩ := ru
    exact ⟨ns[i], by simp [hi], intKind_is _ _ _ _, rfl⟩
  obtain ⟨lk, nd, mem, len⟩ := hS.ndk
  refine PyProof.Rows.args_nil (sorted_setI hS (I1.ok.hd hc) (by rw [← len]; exact hd lk nd fun k hk => of_decide_eq_true ((mem k).mp hk)) fun s' t out ys st hi hs hm hln => ?_)
  exact fin_sort I1 hk hz' st (vals_of_ints hi) (by rw [List.length_map, hln]; exact Nat.le_trans hcl (Nat.le_trans h1 (by decide))) (q1 ys t hs fun k => (hm k).trans decide_eq_true_iff)
theorem pe_sortSetS (hc : X.calm = true) (hg : Gl X "sorted") (hm : X.mg "sorted" = none) (hg2 : Gl X "set") (hm2 : X.mg "set" = none) (ha : PE X a ta)
    (na : starEach [a] X.env = (false, eval a X.env) :: starEach [] X.env := by rfl) : PE X (.Call (.Name "sorted" p) [.Call (.Name "set" p2) [a] [] q] [] pos) (tSortSetS X.K ta) := by
  refine ⟨fun pins s σ H Q I h => ?_⟩
  refine Call_ (ld_blt I hg hm PyProof.Rows.boot_sorted (PyProof.Rows.callWith_builtin1 (PyProof.Rows.args_cons ?_ rfl) rfl rfl))
  refine Call_ (ld_blt I hg2 hm2 PyProof.Rows.boot_set (PyProof.Rows.callWith_type1 (PyProof.Rows.args_cons (thn (ha.run pins s σ H _ I h) fun v s1 ⟨x, H1, I1, r1, q1⟩ => PyProof.Rows.args_nil ?_) na) na rfl))
  obtain ⟨l, ns, rfl, hq, h1, hd, q1⟩ := q1
  cases r1
  obtain ⟨its, r, pl, hz⟩ := I1.list hq
  have hl : its.toArray.size = ns.length := by rw [List.size_toArray, ← r.length, List.length_map]
  refine call_setG kf_str ns (I1.ok.hd hc) pl.isList hl (fun i v hv => ?_) (by unfold scanBound; omega) fun h' tk c hcl hS hk hz' => ?_
  · have hi : i < ns.length := by
      have := (Array.getElem?_eq_some_iff.mp hv).1
      omega
    obtain ⟨u, hu, ru⟩ := r.get (i := i) (x := .str ns[i]) (by simp [hi])
    have : v = u := by
      rw [List.getElem?_toArray, hu] at hv
      exact (Option.some.inj hv).symm
    subst this
    obtain ⟨t, rfl⟩ := ru
    exact ⟨ns[i], by simp [hi], strKind_is _ _ _ _, rfl⟩
  obtain ⟨lk, nd, mem, len⟩ := hS.ndk
  refine PyProof.Rows.args_nil (sorted_setS hS (I1.ok.hd hc) (by rw [← len]; exact hd lk nd fun k hk => of_decide_eq_true ((mem k).mp hk)) fun s' t out ys st hi hn hs hm hln => ?_)
  exact fin_sort I1 hk hz' st (vals_of_strs hi) (by rw [List.length_map, hln]; exact Nat.le_trans hcl (Nat.le_trans h1 (by decide))) (q1 ys t hn hs fun k => (hm k).trans decide_eq_true_iff)
end
theorem i_sortSetI {K : PySem.W.Frag} {te : TE} {σ : L2.St} {H : Hp} {Q : VK} (h : te σ H fun x H1 => ∃ (l : Addr) (ns : List Int), x = V.ref l ∧ SqL K H1 l (ns.map V.int) ∧ ns.length ≤ 1000 ∧ (∀ ys : List Int, ys.Nodup → (∀ k ∈ ys, k ∈ ns) → ys.length < 64) ∧ ∀ (ys : List Int) (t : Addr), ys.Pairwise (· < ·) → (∀ k, k ∈ ys ↔ k ∈ ns) → H1 t = none → Q (.ref t) (upd H1 t (.lst (ys.map V.int)))) : tSortSetI K te σ H Q := h
theorem i_sortSetS {K : PySem.W.Frag} {te : TE} {σ : L2.St} {H : Hp} {Q : VK} (h : te σ H fun x H1 => ∃ (l : Addr) (ns : List Str), x = V.ref l ∧ SqL K H1 l (ns.map V.str) ∧ ns.length ≤ 1000 ∧ (∀ ys : List Str, ys.Nodup → (∀ k ∈ ys, k ∈ ns) → ys.length < 64) ∧ ∀ (ys : List Str) (t : Addr), ys.Nodup → sortedS ys = true → (∀ k, k ∈ ys ↔ k ∈ ns) → H1 t = none → Q (.ref t) (upd H1 t (.lst (ys.map V.str)))) : tSortSetS K te σ H Q := h
end Fb

set_option maxHeartbeats 4000000
/-! len(set(xs)), any ints -/
namespace Fb
open PySem PySem.Spec PyProof.Rows L2
theorem nodup_of_len {α : Type} [DecidableEq α] : ∀ {a b : List α}, a.Nodup → (∀ x ∈ a, x ∈ b) → b.length ≤ a.length → b.Nodup
  | [], b, _, _, h => by
    have : b = [] := List.length_eq_zero_iff.mp (Nat.le_zero.mp h)
    rw [this]
    exact List.nodup_nil
  | x :: a, b, nd, sub, h => by
    obtain ⟨h1, h2⟩ := List.nodup_cons.mp nd
    have hx := sub x (List.mem_cons_self ..)
    have p := List.perm_cons_erase hx
    have hl := p.length_eq
    rw [List.length_cons] at hl h
    have sub2 : ∀ y ∈ a, y ∈ b.erase x := fun y hy => (List.mem_erase_of_ne (fun e : y = x => h1 (by rw [← e]; exact hy))).mpr (sub y (List.mem_cons_of_mem _ hy))
    have ih := nodup_of_len h2 sub2 (by omega)
    refine p.nodup_iff.mpr (List.nodup_cons.mpr ⟨fun hm => ?_, ih⟩)
    have h3 : (x :: a).length ≤ (b.erase x).length := List.Nodup.length_le_of_subset nd fun y hy => by
      rcases List.mem_cons.mp hy with rfl | hy
      · exact hm
      · exact sub2 y hy
    rw [List.length_cons] at h3
    omega
def tLenSetG (K : PySem.W.Frag) (ta : TE) : TE := fun σ H Q => ta σ H fun x H1 => ∃ (l : Addr) (ns : List Int), x = V.ref l ∧ SqL K H1 l (ns.map V.int) ∧ ns.length ≤ 1000 ∧ ∀ c : Nat, (c = ns.length ↔ ns.Nodup) → Q (.int (c : Nat)) H1
theorem i_lenSetG {K : PySem.W.Frag} {te : TE} {σ : L2.St} {H : Hp} {Q : VK} (h : te σ H fun x H1 => ∃ (l : Addr) (ns : List Int), x = V.ref l ∧ SqL K H1 l (ns.map V.int) ∧ ns.length ≤ 1000 ∧ ∀ c : Nat, (c = ns.length ↔ ns.Nodup) → Q (.int (c : Nat)) H1) : tLenSetG K te σ H Q := h
section
variable {X : Cx}
theorem pe_lenSetG {a : Expr} {ta : TE} {p p2 q pos : Pos} (hc : X.calm = true) (hg : Gl X "len") (hm : X.mg "len" = none) (hg2 : Gl X "set") (hm2 : X.mg "set" = none) (ha : PE X a ta)
    (na : starEach [a] X.env = (false, eval a X.env) :: starEach [] X.env := by rfl) : PE X (.Call (.Name "len" p) [.Call (.Name "set" p2) [a] [] q] [] pos) (tLenSetG X.K ta) := by
  refine ⟨fun pins s σ H Q I h => ?_⟩
  refine Call_ (ld_blt I hg hm PySem.boot_len (PyProof.Rows.callWith_builtin1 (PyProof.Rows.args_cons ?_ rfl) rfl rfl))
  refine Call_ (ld_blt I hg2 hm2 PyProof.Rows.boot_set (PyProof.Rows.callWith_type1 (PyProof.Rows.args_cons (thn (ha.run pins s σ H _ I h) fun v s1 ⟨x, H1, I1, r1, q1⟩ => PyProof.Rows.args_nil ?_) na) na rfl))
  obtain ⟨l, ns, rfl, hq, h1, q1⟩ := q1
  cases r1
  obtain ⟨its, r, pl, hz⟩ := I1.list hq
  have hl : its.toArray.size = ns.length := by rw [List.size_toArray, ← r.length, List.length_map]
  refine call_setG kf_int ns (I1.ok.hd hc) pl.isList hl (fun i v hv => ?_) (by unfold scanBound; omega) fun h' tk c hcl hS hk hz' => ?_
  · have hi : i < ns.length := by
      have := (Array.getElem?_eq_some_iff.mp hv).1
      omega
    obtain ⟨u, hu, ru⟩ := r.get (i := i) (x := .int ns[i]) (by simp [hi])
    have : v = u := by
      rw [List.getElem?_toArray, hu] at hv
      exact (Option.some.inj hv).symm
    subst this
    obtain ⟨t, rfl⟩ := ru
    exact ⟨ns[i], by simp [hi], intKind_is _ _ _ _, rfl⟩
  obtain ⟨lk, nd, mem, len⟩ := hS.ndk
  have mem' : ∀ k, k ∈ lk ↔ k ∈ ns := fun k => (mem k).trans decide_eq_true_iff
  have hcn : c = ns.length ↔ ns.Nodup := by
    constructor
    · intro e
      exact nodup_of_len nd (fun x hx => (mem' x).mp hx) (by omega)
    · intro hn
      rw [← len]
      exact ((List.perm_ext_iff_of_nodup nd hn).mpr mem').length_eq
  refine PyProof.Rows.args_nil ?_
  obtain ⟨o, es, ep, t, ho, hex, hd, _, _, _, _, hf, hn, _⟩ := hS
  have I2 : Inv X pins σ H1 { s1 with heap := h', toks := tk } := I1.kept fun b o e => hk b o (Heap.lt_size e) e
  exact call_len_set ho hex hd hf (by rw [hn]; omega) ⟨.int (c : Nat), H1, I2.tok _, ⟨_, by rw [hn]⟩, q1 c hcn⟩
end
end Fb

set_option maxHeartbeats 4000000
/-! a != b, two dicts of the same keys and equal values -/
namespace Fb
open PySem PySem.Spec PyProof.Rows L2
section
variable {κ : Type} [DecidableEq κ] {prog : Program} {w : World} {knd : PySem.KeyKind prog w κ} {A : Around} {s : Shared}
theorem rcN_dicts {a b : Addr} {ka kb : List (κ × Value)} {r : Bool} (ha : (a == sysModules) = false) (hb : (b == sysModules) = false)
    (da : s.heap.DictOf knd a ka) (db : s.heap.DictOf knd b kb) (hu : A.units < cLine) (hits : ka.length = kb.length → PySem.W.KeqHitsP prog w A.in1 s kb ka r) (E Q : Value → Shared → Prop) (h : Q (.bool (!(ka.length == kb.length && r))) s) : wpAny (model prog w) A (compareOp .NotEq (.ref a) (.ref b)) Q E s := by
  refine wpAny_richCompare_same_room (op := .NotEq) da.typeIs db.typeIs PySem.F.slot_dict_ne (wpAny_call_entry PySem.F.slot_dict_ne da.typeIs PySem.F.entry_dict_ne ?_ (PySem.F.args_dict_ne_2 _ _)) hu
  show wpAny _ _ (Builtin.Dict.dictSlotArgs "__ne__" ⟨[.ref a, .ref b], []⟩ >>= _) _ _ s
  refine wpAny_bind ?_
  unfold Builtin.Dict.dictSlotArgs
  refine wpAny_bind (wpAny_notOrdered_dict da.typeIs ?_)
  show wpAny _ _ (pure (Value.ref a, Value.ref b)) _ _ s
  refine wpAny_pure ?_
  refine wpAny_bind (wpAny_isInstance (T := "dict") db.typeIs PySem.F.sub_dict_dict ?_)
  simp only [Bool.not_true, Bool.false_eq_true, if_false]
  refine wpAny_bind (wpAny_pure (wpAny_bind (wpAny_pure ?_)))
  refine wpAny_bind (PySem.W.samePairsP ha hb da db hits ?_)
  refine wpAny_pure ⟨_, rfl, ?_, ?_⟩
  · exact fun x => nomatch x
  · simpa using h
end
def rNeDD (K : PySem.W.Frag) : R2 := fun x y H Q => EqDD K H x y ∧ Q (.bl false) H
theorem op_neDD {X : Cx} (hu : X.A.units + 64 < cLine) : OpR X (compareOp .NotEq) (rNeDD X.K) := by
  intro pins s σ H x y v u Q I rx ry h
  obtain ⟨⟨a, b, ks, ls, rfl, rfl, ha, hb, hl, hp⟩, q⟩ := h
  cases (show v = Value.ref a from rx)
  cases (show u = Value.ref b from ry)
  obtain ⟨_, ya, va, ra, da⟩ := (show ObjOk X.prog X.w H s.heap a (.dK ks) from I.hok a _ ha)
  obtain ⟨_, yb, vb, rb, db⟩ := (show ObjOk X.prog X.w H s.heap b (.dK ls) from I.hok b _ hb)
  refine rcN_dicts (knd := mixKind X.prog X.w) (r := true) ya yb da db (A := X.A) (by omega) (fun _ => hits_run (F := fun x y => ∃ d, Dt X.K H x d ∧ Dt X.K H y d ∧ d.canLay0 = true ∧ d.depth ≤ 8 ∧ PyData.eqv d d = true) (fun x y v u f rx ry => ?_) rb ra fun p hm => ?_) _ _ ?_
  · obtain ⟨d, d1, d2, sd, dd, ed⟩ := f
    obtain ⟨as, r1⟩ := Dp.reads I d x v (Dt.dp _ _ d1) rx
    obtain ⟨bs, r2⟩ := Dp.reads I d y u (Dt.dp _ _ d2) ry
    have := SeqAt.eqAt_reads d d X.A.in1 s v u as bs r1 r2 sd sd (by
      rw [Nat.min_self]
      show X.A.units + 1 + d.depth < cLine
      omega)
    rw [ed] at this
    exact this.eqP
  · obtain ⟨u, d, g1, g2⟩ := hp p hm
    exact ⟨u, g1, d, g2⟩
  · have e : va.length = vb.length := by rw [← ra.length, ← rb.length]; exact hl
    rw [show (va.length == vb.length && true) = true from by rw [e]; simp]
    exact ⟨.bl false, H, I, rfl, q⟩
theorem k_neDD {X : Cx} {K : PySem.W.Frag} (hk : X.K = K) (hu : X.A.units + 64 < cLine) : OpR X (compareOp .NotEq) (rNeDD K) := hk ▸ op_neDD hu
end Fb

set_option maxHeartbeats 4000000
/-! x in d.values(), a dict with int values -/
namespace Fb
open PySem PySem.Spec PyProof.Rows PyProof.V L2
theorem no_contains : typeLookup (.type "dict_values") (Str.ofString "__contains__") = pure none := by rw [typeLookup_type, builtinLookup_eq_fast]; kernel_rfl
theorem entry_ci : entryFor table "proto.contains_iter" = some Builtin.«proto.contains_iter» := entryFor_of_tree (by kernel_rfl)
section
variable {κ : Type} [DecidableEq κ] {prog : Program} {w : World} {knd : PySem.KeyKind prog w κ}
/-- all that was there stands, but for one's own iterator -/
def Kept (it : Addr) (h h' : Heap) : Prop := ∀ b ob, b ≠ it → h.get? b = some ob → h'.get? b = some ob
theorem ci_run {A : Around} (hh : A.handled = none) {it d : Addr} {ep : Nat} {kvs : List (κ × Value)} {is : List Int} {x : Int} {t : Tok} (hlen : kvs.length = is.length) (hv : ∀ (j : Nat) (k : κ) (v : Value), kvs[j]? = some (k, v) → ∃ u, v = .int (is.getD j 0) u) (hd : it ≠ d) {R : Result → Shared → Prop} :
    ∀ (n i : Nat) (s : Shared), is.length - i = n → i ≤ is.length → s.heap.IsValIter it d i kvs.length ep → s.heap.DictAt knd d kvs ep →
    (∀ h', Kept it s.heap h' → R (.ok (.ret (.bool (decide (x ∈ is.drop i))))) { s with heap := h' }) →
    codeAny (model prog w) A (.builtin "proto.contains_iter" ⟨[.ref it, .int x t], []⟩) R s := by
  intro n
  induction n with
  | zero =>
    intro i s hn hi hit hm hR
    refine codeAny_builtin entry_ci ?_
    show wpAny _ _ (pyNext (.ref it) >>= _) _ _ s
    refine wpAny_bind (wpAny_pyNext_values_end (knd := knd) hh hit hm (List.getElem?_eq_none (by omega)) fun h' eb => ?_)
    refine wpAny_bind (wpAny_rule ?_)
    refine wpAny_pure ?_
    have e : decide (x ∈ is.drop i) = false := by
      rw [List.drop_eq_nil_of_le (by omega)]
      simp
    have := hR h' (fun b ob hb hg => eb b ob hb hg)
    rw [e] at this
    exact this
  | succ n ih =>
    intro i s hn hi hit hm hR
    have hil : i < kvs.length := by omega
    obtain ⟨⟨k, v⟩, hkv⟩ : ∃ p, kvs[i]? = some p := ⟨kvs[i], List.getElem?_eq_getElem hil⟩
    obtain ⟨u, rfl⟩ := hv i k v hkv
    refine codeAny_builtin entry_ci ?_
    show wpAny _ _ (pyNext (.ref it) >>= _) _ _ s
    refine wpAny_bind (wpAny_pyNext_values_item (knd := knd) hit hm hkv fun h' st' sb => ?_)
    show wpAny _ _ (eqBool (.int (is.getD i 0) u) (.int x t) >>= _) _ _ _
    refine wpAny_bind (wpAny_eqBool_int ?_)
    have ed : is.drop i = is.getD i 0 :: is.drop (i + 1) := by
      rw [List.getD_eq_getElem?_getD, List.getElem?_eq_getElem (show i < is.length by omega)]
      exact List.drop_eq_getElem_cons (by omega)
    have kp : Kept it s.heap h' := fun b ob hb hg => (sb.2 b hb).trans hg
    by_cases e : is.getD i 0 = x
    · have e2 : (is.getD i 0 == x) = true := by rw [e]; exact beq_self_eq_true x
      rw [e2]
      show wpAny _ _ (if true = true then _ else _) _ _ _
      rw [if_pos rfl]
      refine wpAny_bind (wpAny_rule ?_)
      refine wpAny_pure ?_
      have := hR h' kp
      rw [show decide (x ∈ is.drop i) = true from by rw [ed, e]; simp] at this
      exact this
    · have e2 : (is.getD i 0 == x) = false := by rw [beq_eq_false_iff_ne]; exact e
      rw [e2]
      show wpAny _ _ (if false = true then _ else _) _ _ _
      rw [if_neg Bool.false_ne_true]
      refine wpAny_pure ⟨by first | decide | decide +kernel | kernel_rfl, ?_⟩
      refine ih (i + 1) _ (by omega) (by omega) st' (hm.extBut kp (Ne.symm hd)) fun h'' k2 => ?_
      · have := hR h'' (fun b ob hb hg => k2 b ob hb (kp b ob hb hg))
        rw [show decide (x ∈ is.drop i) = decide (x ∈ is.drop (i + 1)) from by
          rw [ed, Bool.eq_iff_iff, decide_eq_true_iff, decide_eq_true_iff, List.mem_cons]
          exact ⟨fun h => h.resolve_left fun c => e c.symm, .inr⟩] at this
        exact this
end
def tInVals (tx td : TE) : TT := fun σ H Q => tx σ H fun x H1 => td σ H1 fun y H2 => ∃ (i : Int) (a : Addr) (kvs : List (Key × V)) (is : List Int), x = .int i ∧ y = .ref a ∧ H2 a = some (.dK kvs) ∧ kvs.map (·.2) = is.map V.int ∧ Q (decide (i ∈ is)) H2
theorem pt_inVals {X : Cx} {a o : Expr} {ta td : TE} {pos apos cpos : Pos} (hc : X.calm = true) (ha : PE X a ta) (hd : PE X o td) (hbase : attributeBase o "values" X.env (eval o X.env) = eval o X.env := by rfl) (hline : (apos.endLine == cpos.line) = true := by rfl)
    (hm : behindInMarks .In (Expr.Call (.Attribute o "values" apos) [] [] cpos) = false := by rfl) : PT X (.Compare a [.In] [.Call (.Attribute o "values" apos) [] [] cpos] pos) (tInVals ta td) := by
  refine ⟨fun pins s σ H Q I h => ?_⟩
  refine wpAny_isTrue_Compare1 (thn (ha.run pins s σ H _ I h) fun v s1 ⟨x, H1, I1, r1, q1⟩ => ?_) hm
  refine wpAny_Call_method (T := "dict") (id := "dict.values") hbase rfl hline F.plainAttrs_dict F.slot_dict_values F.type_dict_values (thn (hd.run pins s1 σ H1 _ I1 q1) fun u s2 ⟨y, H2, I2, r2, i, d, kvs, is, ex, ey, hk, hv, q2⟩ => ?_)
  subst ex ey
  obtain ⟨t, rfl⟩ : ∃ t, v = Value.int i t := r1
  obtain rfl : u = Value.ref d := r2
  obtain ⟨_, hsys, vs, rel, dof⟩ := dk_of I2.hok hk
  obtain ⟨ep, dat⟩ := dof.dictAt
  have hlv : vs.length = is.length := by
    have e1 := congrArg List.length hv
    rw [List.length_map, List.length_map] at e1
    rw [← e1]
    exact (KV.length rel).symm
  have hval : ∀ (j : Nat) (k : Key) (v : Value), vs[j]? = some (k, v) → ∃ u, v = Value.int (is.getD j 0) u := fun j k v hj => by
    obtain ⟨x, h1, h2⟩ := KV.at' rel hj
    have e1 : (kvs.map (·.2))[j]? = some x := by rw [List.getElem?_map, h1] <;> rfl
    rw [hv, List.getElem?_map] at e1
    obtain ⟨m, hm, e2⟩ := Option.map_eq_some_iff.mp e1
    subst e2
    obtain ⟨t, e3⟩ := h2
    refine ⟨t, ?_⟩
    rw [e3, List.getD_eq_getElem?_getD, hm] <;> rfl
  refine ⟨dof.typeIs, dof.mapOf.noDict, ?_⟩
  show wpAny _ _ (callWith cpos (.builtin "dict.values") [.ref d] [] []) _ X.xe s2
  refine method_meetsIn F.slot_dict_values F.entry_dict_values rfl (PySem.evalArgs_none ⟨rfl, dof.typeIs, F.args_dict_values_1 _, _, meets_dict_values (mixKind X.prog X.w) d hsys, ⟨vs, dof⟩, ?_⟩)
  have hlt : d < s2.heap.objs.size := dat.lt_size
  have hT : Shared.TypeIs ({ s2 with heap := s2.heap.push { cls := .type "dict_values", data := .fields #[.ref d] } } : Shared) (.ref s2.heap.objs.size) "dict_values" := ⟨_, Heap.get?_push_size _ rfl, rfl⟩
  have hsz : (s2.heap.push { cls := .type "dict_values", data := .fields #[.ref d] }).objs.size = s2.heap.objs.size + 1 := Heap.size_push _ _
  have dat1 := dat.push { cls := .type "dict_values", data := .fields #[.ref d] }
  show wpAny (model X.prog X.w) X.A (compareOp .In (.int i t) (.ref s2.heap.objs.size)) (fun c s3 => wpAny (model X.prog X.w) X.A (truthy c) (TP X pins σ Q) X.xe s3) X.xe _
  show wpAny _ _ (contains (.ref s2.heap.objs.size) (.int i t) >>= fun b => pure (Value.bool b)) _ _ _
  refine wpAny_bind ?_
  unfold contains
  refine wpAny_holding ?_
  rw [stdlibNamesSay?_of_typeIs hT]
  refine wpAny_bind (wpAny_specialOf hT no_contains ?_)
  show wpAny _ _ (if ((none : Option Value) == some Value.none) = true then _ else _) _ _ _
  rw [if_neg (by decide)]
  refine wpAny_bind (wpAny_callSpecialUnlessNone?_none hT no_contains ?_)
  refine wpAny_bind (wpAny_rule ?_)
  refine wpAny_bind (wpAny_tryCatch (wpAny_pyIter_values (v := s2.heap.objs.size) (d := d) (knd := mixKind X.prog X.w) ⟨_, Heap.get?_push_size _ rfl, rfl, rfl⟩ dat1 ?_))
  have dat2 := dat1.push { cls := .type "dict_valueiterator", data := .fields #[.ref d, .int 0 0, .int vs.length 0, .int ep 0] }
  refine wpAny_bind (wpAny_runValue (ci_run (knd := mixKind X.prog X.w) (ep := ep) (d := d) (kvs := vs) (is := is) (I.ok.hd hc) hlv hval (fun c => by rw [hsz] at c; exact absurd hlt (by rw [← c]; exact Nat.not_lt.mpr (Nat.le_succ _))) is.length 0 _ rfl (Nat.zero_le _) ⟨_, Heap.get?_push_size _ rfl, rfl, rfl⟩ dat2 fun h' kp => ?_))
  rw [List.drop_zero]
  refine wpAny_pure (wpAny_pure (wpAny_truthy_bool ⟨H2, I2.kept (t' := s2.toks) fun b ob e => kp b ob ?_ (Heap.get?_push_of_some _ (Heap.get?_push_of_some _ e)), q2⟩))
  intro e2
  have e3 := Heap.lt_size e
  rw [e2, hsz] at e3
  exact absurd e3 (Nat.not_lt.mpr (Nat.le_succ _))
theorem k_catA {X : Cx} {K : PySem.W.Frag} (h : X.K = K) : OpR X (binaryOp .Add) (rCatA K) := h ▸ op_catA
theorem k_slTA {X : Cx} {K : PySem.W.Frag} (h : X.K = K) : SlR X (rSlA K) := h ▸ sl_tupA
end Fb

set_option maxHeartbeats 4000000
/-! for k, v in e.items(), e a dict that nobody writes to any more: it is read only from then on -/
namespace Fb
open PySem PySem.Spec PyProof.Rows L2
def iItemsF (td : TE) : TI := fun σ H R => td σ H fun x H1 => ∃ d kvs, x = .ref d ∧ H1 d = some (.dK kvs) ∧ ∀ od, R (Iti d od kvs) (upd H1 d (.frz od (.dK kvs)))
theorem pi_itemsF {X : Cx} {e : Expr} {td : TE} {apos cpos : Pos} {elts : List Expr} {kk : Nat} {tpos : Pos} (he : PE X e td) (hbase : attributeBase e "items" X.env (eval e X.env) = eval e X.env := by rfl) (hline : (apos.endLine == cpos.line) = true := by rfl) :
    PI X (.Tuple elts kk tpos) (.Call (.Attribute e "items" apos) [] [] cpos) (iItemsF td) := by
  refine ⟨fun pins s σ H R I h => ?_⟩
  refine wpAny_Call_method (T := "dict") (id := "dict.items") hbase rfl hline PySem.F.plainAttrs_dict PySem.F.slot_dict_items PySem.F.type_dict_items (thn (he.run pins s σ H _ I h) fun u s1 ⟨x, H0, I0, rx, d, kvs, ex, hd0, q0⟩ => ?_)
  subst ex
  obtain rfl : u = Value.ref d := rx
  obtain ⟨o, I1⟩ := I0.lock hd0 trivial
  have q := q0 o
  have hd : (upd H0 d (.frz o (.dK kvs))) d = some (.frz o (.dK kvs)) := upd_same
  generalize upd H0 d (.frz o (.dK kvs)) = H1 at I1 q hd
  obtain ⟨hs, hgd, hx, es, ep, vs, hdt, hsz, kv, hm⟩ := I1.frzK hd
  have hl : kvs.length = vs.length := Paired.length kv
  refine ⟨hm.dictOf.typeIs, hm.dictOf.mapOf.noDict, ?_⟩
  have I2 : Inv X pins σ H1 { s1 with heap := s1.heap.push { cls := .type "dict_items", data := .fields #[.ref d] } } := I1.kept (t' := s1.toks) fun b ob q => Heap.get?_push_of_some _ q
  have fin : wpAny (model X.prog X.w) X.A (pyIter (.ref s1.heap.objs.size)) (PIE X pins σ (.Tuple elts kk tpos) R) X.xe { s1 with heap := s1.heap.push { cls := .type "dict_items", data := .fields #[.ref d] } } := by
    refine wpAny_pyIter_items (d := d) (knd := mixKind X.prog X.w) ⟨_, Heap.get?_push_size _ rfl, rfl, rfl⟩ (hm.push _) (pi_one (tk := s1.toks) I2 _ (turn_items _ hdt) ⟨.none, .none, ?_⟩ q)
    rw [hl]
    exact Heap.get?_push_size _ rfl
  show wpAny _ _ (callWith cpos (.builtin "dict.items") [.ref d] [] []) _ X.xe s1
  exact method_meetsIn PySem.F.slot_dict_items PySem.F.entry_dict_items rfl (PySem.evalArgs_none ⟨rfl, hm.dictOf.typeIs, PySem.F.args_dict_items_1 _, _, meets_dict_items (mixKind X.prog X.w) d hs, ⟨vs, hm.dictOf⟩, fin⟩)
theorem i_itF {td : TE} {σ : L2.St} {H : Hp} {R : It → Hp → Prop} (h : td σ H fun x H1 => ∃ d kvs, x = .ref d ∧ H1 d = some (.dK kvs) ∧ ∀ od, R (Iti d od kvs) (upd H1 d (.frz od (.dK kvs)))) : iItemsF td σ H R := h
/-- dict(pairs), pairs a list -/
def rDictP (K : PySem.W.Frag) : List V → Hp → VK → Prop := fun xs H Q => ∃ (a : Addr) (ps : List Addr) (kvs : List (Key × V)), xs = [.ref a] ∧ SqL K H a (ps.map V.ref) ∧ Paired (fun p kv => SqT K H p [kV kv.1, kv.2]) ps kvs ∧ ∀ p, H p = none → Q (.ref p) (upd H p (.dK (mergeK [] kvs)))
theorem k_dictP {X : Cx} {K : PySem.W.Frag} (hk : X.K = K) (hc : X.calm = true) : CallR X (.type "dict") (rDictP K) := hk ▸ call_dictP hc
theorem valV_no {k : Key} : ∀ {l : List (Key × V)}, k ∉ l.map (·.1) → valV l k = none
  | [], _ => rfl
  | p :: l, h => by
    rw [List.map_cons] at h
    rw [valV_neg fun e => h (by rw [e]; exact List.mem_cons_self)]
    exact valV_no fun hm => h (List.mem_cons_of_mem _ hm)
theorem merge_new : ∀ (kvs acc : List (Key × V)), ((acc ++ kvs).map (·.1)).Nodup → mergeK acc kvs = acc ++ kvs
  | [], acc, _ => by simp [mergeK]
  | p :: kvs, acc, nd => by
    have hn : valV acc p.1 = none := valV_no fun hm => by
      rw [List.map_append, List.map_cons] at nd
      obtain ⟨_, _, h3⟩ := List.nodup_append.mp nd
      exact h3 p.1 hm p.1 (by simp) rfl
    show mergeK (putK acc p.1 p.2) kvs = _
    rw [putK_new _ hn]
    have e : acc ++ p :: kvs = (acc ++ [p]) ++ kvs := by simp
    rw [e] at nd ⊢
    exact merge_new kvs (acc ++ [p]) nd
end Fb

set_option maxHeartbeats 4000000
/-! comprehensions of two clauses; sum of a tuple; max, min, count, index of lists; x *= e -/
namespace Fb
open PySem PySem.Spec PyProof.Rows L2
section
variable {X : Cx} {K : PySem.W.Frag}
theorem ip_mul : PIp X .Mult (rI CMul fun i j => .int (i * j)) := fun pins s σ H x y v u Q I r1 r2 h => iop_mul pins s σ H x y v u Q I r1 r2 h
def rSumT (K : PySem.W.Frag) : List V → Hp → VK → Prop := fun vs H Q => ∃ (a : Addr) (ns : List Int), vs = [V.ref a] ∧ SqT K H a (ns.map V.int) ∧ Q (.int ns.sum) H
theorem sumT_raw {prog : Program} {w : World} {A : Around} {E : Value → Shared → Prop} {s : Shared} {l : Addr} {its : List Value} {ns : List Int} {Q : Value → Shared → Prop} (hh : A.handled = none) (hl : s.heap.IsTuple l its.toArray) (hi : IntsAre its ns)
    (h : ∀ h' tk t', (∀ b o, s.heap.get? b = some o → h'.get? b = some o) → Q (.int ns.sum t') { s with heap := h', toks := tk }) : wpAny (model prog w) A (call (.builtin "sum") [.ref l]) Q E s := by
  obtain ⟨xs, e⟩ := hi.allInts.items
  have hn : numsOf (intItems xs).toList = ns := by rw [← e]; exact hi.numsOf
  rw [nums_intItems] at hn
  rw [e] at hl
  refine PySem.W.ktm_sumG hh hl fun h' tk t' hk => ?_
  have := h h' tk t' hk
  rw [preSum_eq, List.take_of_length_le (by simp), hn]; exact this
theorem cr_sumT (hc : X.calm = true) : CallR X (.builtin "sum") (rSumT X.K) := by
  intro pins s σ H vs us Q I r h
  obtain ⟨a, ns, rfl, hs, q⟩ := h
  obtain ⟨its, rv, hl, _⟩ := I.tuple hs
  rw [Vals.ref1 r]
  exact sumT_raw (I.ok.hd hc) hl rv.ints fun h' tk t' hk => ⟨.int _, H, I.kept hk, ⟨_, rfl⟩, q⟩
theorem k_sumT (h : X.K = K) (hc : X.calm = true) : CallR X (.builtin "sum") (rSumT K) := h ▸ cr_sumT hc
theorem k_max (h : X.K = K) (hc : X.calm = true) : CallR X (.builtin "max") (rMax K) := h ▸ cr_max hc
theorem k_min (h : X.K = K) (hc : X.calm = true) : CallR X (.builtin "min") (rMin K) := h ▸ cr_min hc
end
/-! comprehensions of two clauses -/
section
variable {σ σ2 : L2.St} {H H4 : Hp} {Q : VK} {te : TE}
def Lc2It (J : It) (g : TG) (tt : TT) (wi1 : TI) (g1 : TG) (tt1 : TT) (te : TE) (vs vs1 : List Nat) (σ : L2.St) (H : Hp) (Q : VK) : Prop := tLc2 (fun _ H R => R J H) g tt wi1 g1 tt1 te vs vs1 σ H Q
theorem i_lc2 {wi : TI} {g : TG} {tt : TT} {wi1 : TI} {g1 : TG} {tt1 : TT} {vs vs1 : List Nat} (h : wi σ H fun J H1 => Lc2It J g tt wi1 g1 tt1 te vs vs1 σ H1 Q) : tLc2 wi g tt wi1 g1 tt1 te vs vs1 σ H Q := h
/-- the inner clause: from it Nx is reached -/
def InIt (J1 : It) (g1 : TG) (tt1 : TT) (te : TE) (vs1 : List Nat) (D : Addr) (Nx : Hp → Prop) (σ2 : L2.St) (H4 : Hp) : Prop :=
  ∃ W1 : Nat → Nat → Hp → Prop, (∃ m, W1 0 m H4) ∧ ∀ j k H, W1 j k H →
      (J1.stop j H ∧ Nx H) ∨ (J1.go j H ∧ ∃ Nx1 : Hp → Prop, (∀ H', Nx1 H' → ∃ k', k' < k ∧ W1 (j + 1) k' H') ∧ ∀ x H', J1.yld j H x H' → g1 x (wipe σ2 vs1) H' fun σ3 H5 => wipe σ3 vs1 = wipe σ2 vs1 ∧ tt1 σ3 H5 fun b H6 =>
        if b = true then te σ3 H6 fun y H7 => ∃ acc, H7 D = some (.lst acc) ∧ acc.length < sizeLine ∧ Nx1 (upd H7 D (.lst (acc ++ [y]))) else Nx1 H6)
theorem InIt.go {J1 : It} {n : Nat} {G : Hp → Prop} {Y : Nat → Hp → V → Hp → Prop} {g1 : TG} {tt1 : TT} {vs1 : List Nat} {D : Addr} {Nx : Hp → Prop} (w : Walk J1 n G Y) (Pw : Nat → Hp → Prop) (h0 : Pw 0 H4) (hG : ∀ i H, i ≤ n → Pw i H → G H)
    (hs : ∀ i x H H', i < n → Pw i H → Y i H x H' → g1 x (wipe σ2 vs1) H' fun σ3 H5 => wipe σ3 vs1 = wipe σ2 vs1 ∧ tt1 σ3 H5 fun b H6 =>
      if b = true then te σ3 H6 fun y H7 => ∃ acc, H7 D = some (.lst acc) ∧ acc.length < sizeLine ∧ Pw (i + 1) (upd H7 D (.lst (acc ++ [y]))) else Pw (i + 1) H6) (hd : ∀ H, Pw n H → Nx H) : InIt J1 g1 tt1 te vs1 D Nx σ2 H4 := by
  refine ⟨fun i m H => m = n - i ∧ i ≤ n ∧ Pw i H, ⟨n, by simp, Nat.zero_le _, h0⟩, ?_⟩
  rintro i m H ⟨rfl, hi, p⟩
  have q := hG i H hi p
  by_cases hlt : i < n
  · exact .inr ⟨w.goes i H hlt q, Pw (i + 1), fun H' p' => ⟨n - (i + 1), by omega, rfl, hlt, p'⟩, fun x H' y => hs i x H H' hlt p (w.yields i H x H' hlt q y)⟩
  · have e : i = n := by omega
    subst e
    exact .inl ⟨w.stops H q, hd H p⟩
theorem Lc2It.go {J : It} {n : Nat} {G : Hp → Prop} {Y : Nat → Hp → V → Hp → Prop} {g : TG} {tt : TT} {wi1 : TI} {g1 : TG} {tt1 : TT} {vs vs1 : List Nat} (w : Walk J n G Y) (Pv : Addr → Nat → Hp → Prop) (h0 : ∀ D, H D = none → Pv D 0 (upd H D (.lst []))) (hG : ∀ D i H, i ≤ n → Pv D i H → G H)
    (hs : ∀ D i x H H', i < n → Pv D i H → Y i H x H' → g x (wipe σ vs) H' fun σ2 H2 => wipe σ2 vs = wipe σ vs ∧ tt σ2 H2 fun b H3 =>
      if b = true then wi1 σ2 H3 fun J1 H4 => InIt J1 g1 tt1 te vs1 D (Pv D (i + 1)) σ2 H4 else Pv D (i + 1) H3) (hd : ∀ D H', Pv D n H' → Q (.ref D) H') : Lc2It J g tt wi1 g1 tt1 te vs vs1 σ H Q := by
  intro D hD
  refine ⟨fun i m H => m = n - i ∧ i ≤ n ∧ Pv D i H, ⟨n, by simp, Nat.zero_le _, h0 D hD⟩, ?_⟩
  rintro i m H ⟨rfl, hi, p⟩
  have q := hG D i H hi p
  by_cases hlt : i < n
  · exact .inr ⟨w.goes i H hlt q, Pv D (i + 1), fun H' p' => ⟨n - (i + 1), by omega, rfl, hlt, p'⟩, fun x H' y => hs D i x H H' hlt p (w.yields i H x H' hlt q y)⟩
  · have e : i = n := by omega
    subst e
    exact .inl ⟨w.stops H q, hd D H p⟩
end
end Fb

set_option maxHeartbeats 4000000
/-! methods and classes that may raise; min of a tuple -/
namespace Fb
open PySem PySem.Spec PyProof.Rows L2
section
variable {P : Program} {w : World} {K : PySem.W.Frag} {mg : Str → Option Value} {base : Heap}
theorem calM_ofX {x : Str} {C : Addr} {fs : List Str} {m qual : Str} {st : Stmt} {N ps : List Str} {k : Nat} {sp : Sp} (O : ClsOk K mg x C fs) (D : MetIn K C m qual st) (S : FnScope N ps (defScope st))
    (b : ∀ (kV doc pm : Value) (an : Option Addr) (cdv ct : Value) (us : List Value), us.length = ps.length → bindArgs (PySem.W.fnOf m qual (defArgs st) (defBody st) (defScope st) .none kV doc pm an cdv ct) ⟨us, []⟩ = pure (ps.zip us))
    (len : ∀ vs H Q E, sp vs H Q E → vs.length = ps.length)
    (hbody : ∀ (f : Addr) (cdv : Value) (A : Around) (outer : List Env) (s : Shared) (H : Hp) (vs : List V) (Q : VK) (E : XK), Room k (A.deeper (envOfC qual (defScope st) s.heap.objs.size f cdv)) → sp vs H Q E →
      ∃ t, PSs (cxOf (L2.CX P w) P w K mg base N qual (defScope st) f cdv A outer s H E) (defBody st) t ∧ t { nx := fun _ H' => Q .non H', rt := Q } (start N vs) H) : CalM P w K mg base (k + 1) C m sp := by
  obtain ⟨f, fd, F, hm⟩ := D.ex
  exact ⟨f, fd, ps, O.cl, hm, F.okX S len (hbody f), F.binds b⟩
theorem calK_ofX {x : Str} {C : Addr} {fs : List Str} {qual : Str} {st : Stmt} {N ps : List Str} {k : Nat} {sp : Sp} (O : ClsOk K mg x C fs) (D : MkIn K C qual st) (S : FnScope N ps (defScope st))
    (b : ∀ (kV doc pm : Value) (an : Option Addr) (cdv ct : Value) (us : List Value), us.length = ps.length → bindArgs (PySem.W.fnOf "__init__" qual (defArgs st) (defBody st) (defScope st) .none kV doc pm an cdv ct) ⟨us, []⟩ = pure (ps.zip us))
    (len : ∀ vs H Q E, sp vs H Q E → vs.length = ps.length)
    (hbody : ∀ (f : Addr) (cdv : Value) (A : Around) (outer : List Env) (s : Shared) (H : Hp) (vs : List V) (Q : VK) (E : XK), Room k (A.deeper (envOfC qual (defScope st) s.heap.objs.size f cdv)) → sp vs H Q E →
      ∃ t, PSs (cxOf (L2.CX P w) P w K mg base N qual (defScope st) f cdv A outer s H E) (defBody st) t ∧ t { nx := fun _ H' => Q .non H', rt := Q } (start N vs) H) : CalK P w K mg base (k + 1) x C sp := by
  obtain ⟨f, fd, F, hm⟩ := D.ex
  exact ⟨f, fd, ps, hm, F.okX S len (hbody f), O.mgC, F.binds b⟩
theorem CalM.imp {k : Nat} {C : Addr} {m : Str} {sp sp' : Sp} (c : CalM P w K mg base k C m sp) (h : ∀ vs H Q E, sp' vs H Q E → sp vs H Q E) : CalM P w K mg base k C m sp' := by
  obtain ⟨f, fd, ps, a, b, F, r⟩ := c.ex
  exact ⟨f, fd, ps, a, b, F.imp h, r⟩
end
section
variable {X : Cx} {k j : Nat} {C : Addr} {x m : Str} {sp : Sp} {p pos apos : Pos} {e o : Expr} {es : List Expr} {ta : TE} {t : L2.TA} {E : XK}
/-- a method's call, a class's making, that pass on what they raise -/
theorem pmX {pl : Sem Bool} (c : CalM X.prog X.w X.K X.mg X.base k C m sp) (hr : Room j X.A) (hk : k ≤ j) (tk : Takes X (fun cls d _ H => E cls d H)) (he : PE X o ta) (ha : PA X (e :: es) t)
    (hst : starEach (e :: es) X.env = (false, eval e X.env) :: starEach es X.env := by rfl) (hpl : (backTo pos (starEach es X.env)).any (·.1) = false := by rfl)
    (ht : eval (.Call (.Attribute o m apos) (e :: es) [] pos) X.env = (do
      let ov ← eval o X.env
      standAt apos.atName
      let (f, first) ← holding [ov] (getMethod ov m pl)
      callWith pos f first (backTo pos (starEach (e :: es) X.env)) (backToKw pos (keywordEach [] X.env))) := by rfl) :
    PE X (.Call (.Attribute o m apos) (e :: es) [] pos) (tMeth C m sp [] E ta t) := by
  obtain ⟨f, fd, ps, hc, hm, F, b⟩ := c.ex
  exact pe_meth (pl := pl) he hc hm F (hr.mono hk) b .nil (passes_call tk fun _ _ _ _ h => h) ha hst hpl ht
theorem pm0X {pl : Sem Bool} (c : CalM X.prog X.w X.K X.mg X.base k C m sp) (hr : Room j X.A) (hk : k ≤ j) (tk : Takes X (fun cls d _ H => E cls d H)) (he : PE X o ta)
    (ht : eval (.Call (.Attribute o m apos) [] [] pos) X.env = (do
      let ov ← eval o X.env
      standAt apos.atName
      let (f, first) ← holding [ov] (getMethod ov m pl)
      callWith pos f first (backTo pos (starEach [] X.env)) (backToKw pos (keywordEach [] X.env))) := by rfl) :
    PE X (.Call (.Attribute o m apos) [] [] pos) (tMeth C m sp [] E ta tNil) := by
  obtain ⟨f, fd, ps, hc, hm, F, b⟩ := c.ex
  exact pe_meth0 (pl := pl) he hc hm F (hr.mono hk) b .nil (passes_call tk fun _ _ _ _ h => h) ht
theorem pkX (c : CalK X.prog X.w X.K X.mg X.base k x C sp) (hr : Room j X.A) (hk : k + 1 ≤ j) (tk : Takes X (fun cls d _ H => E cls d H)) (ha : PA X (e :: es) t) (hg : Gl X x := by rfl)
    (hdb : (x == ("__debug__" : Str)) = false := by decide) (he : starEach (e :: es) X.env = (false, eval e X.env) :: starEach es X.env := by rfl) (hpl : (backTo pos (starEach es X.env)).any (·.1) = false := by rfl) :
    PE X (.Call (.Name x p) (e :: es) [] pos) (tMake C sp [] E t) := by
  obtain ⟨f, fd, ps, M, F, hm, b⟩ := c.ex
  exact pe_make M F (hr.mono hk) hg hm b .nil (passes_call tk fun _ _ _ _ h => h) ha hdb he hpl
end
section
variable {σ : L2.St} {H : Hp} {Q : VK} {ta : TE} {t : L2.TA} {C : Addr} {sp : Sp} {m : Str} {E : XK}
theorem i_methX (h : ta σ H fun x H1 => ∃ a dx fs, x = .ref a ∧ H1 a = some (.ins C dx fs) ∧ fs.lookup m = none ∧ t σ H1 fun vs H2 => sp (x :: vs) H2 Q E) : tMeth C m sp [] E ta t σ H Q := by
  have e : (fun (x : V) (H1 : Hp) => ∃ a dx fs, x = V.ref a ∧ H1 a = some (HO.ins C dx fs) ∧ fs.lookup m = none ∧ t σ H1 fun vs H2 => sp (x :: (vs ++ [])) H2 Q E) = fun x H1 => ∃ a dx fs, x = .ref a ∧ H1 a = some (.ins C dx fs) ∧ fs.lookup m = none ∧ t σ H1 fun vs H2 => sp (x :: vs) H2 Q E := by
    funext x H1
    have : (fun (vs : List V) (H2 : Hp) => sp (x :: (vs ++ [])) H2 Q E) = fun vs H2 => sp (x :: vs) H2 Q E := by
      funext vs H2
      rw [List.append_nil]
    rw [this]
  show ta σ H fun (x : V) (H1 : Hp) => ∃ a dx fs, x = V.ref a ∧ H1 a = some (HO.ins C dx fs) ∧ fs.lookup m = none ∧ t σ H1 fun vs H2 => sp (x :: (vs ++ [])) H2 Q E
  rw [e]
  exact h
theorem i_makeX (h : t σ H fun vs H1 => ∀ x dx, H1 x = none → H1 dx = none → dx ≠ x → sp (.ref x :: vs) (upd (upd H1 dx (.own x)) x (.ins C dx [])) (fun v H2 => v = .non ∧ Q (.ref x) H2) E) : tMake C sp [] E t σ H Q := by
  have e : (fun (vs : List V) (H1 : Hp) => ∀ x dx, H1 x = none → H1 dx = none → dx ≠ x → sp (.ref x :: (vs ++ [])) (upd (upd H1 dx (.own x)) x (.ins C dx [])) (fun v H2 => v = V.non ∧ Q (.ref x) H2) E) = fun vs H1 => ∀ x dx, H1 x = none → H1 dx = none → dx ≠ x → sp (.ref x :: vs) (upd (upd H1 dx (.own x)) x (.ins C dx [])) (fun v H2 => v = .non ∧ Q (.ref x) H2) E := by
    funext vs H1
    rw [List.append_nil]
  show t σ H fun (vs : List V) (H1 : Hp) => ∀ x dx, H1 x = none → H1 dx = none → dx ≠ x → sp (.ref x :: (vs ++ [])) (upd (upd H1 dx (.own x)) x (.ins C dx [])) (fun v H2 => v = V.non ∧ Q (.ref x) H2) E
  rw [e]
  exact h
end
/-! min of a tuple of ints -/
section
variable {prog : Program} {w : World} {A : Around} {E : Value → Shared → Prop} {s : Shared} {t : Addr}
theorem min_intTup {xs : Array (Int × Tok)} {Q : Value → Shared → Prop} (hh : A.handled = none) (ht : s.heap.IsTuple t (intItems xs)) (hne : 0 < xs.size)
    (h : ∀ v h' tk, (intItems xs)[argBest (fun i j => decide (numAt xs i < numAt xs j)) (xs.size - 1)]? = some v → (∀ b o, s.heap.get? b = some o → h'.get? b = some o) → Q v { s with heap := h', toks := tk }) :
    wpAny (model prog w) A (call (.builtin "min") [.ref t]) Q E s := by
  obtain ⟨o, ho, hc, n, hd⟩ := id ht
  have hne' : t ≠ s.heap.objs.size := Nat.ne_of_lt (Heap.lt_size ho)
  refine call_min_walk (wpAny_pyIter_tuple ht ?_)
  refine ⟨s.heap.objs.size, _, _, _, _, _, _, rfl, Walks.tuple (prog := prog) (w := w) (A := A.in1) hh s.heap.objs.size t hne' (intItems xs), ⟨⟨_, Heap.get?_push_size _ rfl, rfl, rfl⟩, ht.at fun o e => Heap.get?_push_of_some _ e⟩, fun b hb => ?_, by simpa [intItems] using hne, CmpOf.ints_lt (numAt xs) (fun _ _ => intItems_at), fun v h' tk hP hk => ?_⟩
  · rcases List.mem_cons.mp hb with rfl | hb
    · exact Heap.lt_size (Heap.get?_push_size _ rfl)
    · obtain rfl := List.mem_singleton.mp hb
      exact Heap.lt_size (Heap.get?_push_of_some _ ho)
  · exact h v h' tk (by simpa [intItems] using hP) fun b o e => hk b o (fun hb => absurd (Heap.lt_size e) ((List.mem_singleton.mp hb) ▸ Nat.lt_irrefl _)) (Heap.get?_push_of_some _ e)
theorem minT_raw {l : Addr} {its : List Value} {ns : List Int} {Q : Value → Shared → Prop} (hh : A.handled = none) (hl : s.heap.IsTuple l its.toArray) (hi : IntsAre its ns) (hne : 0 < ns.length)
    (h : ∀ h' tk M t', (∀ b o, s.heap.get? b = some o → h'.get? b = some o) → M ∈ ns → (∀ a, a ∈ ns → M ≤ a) → Q (.int M t') { s with heap := h', toks := tk }) : wpAny (model prog w) A (call (.builtin "min") [.ref l]) Q E s := by
  obtain ⟨xs, e⟩ := hi.allInts.items
  have hn : numsOf (intItems xs).toList = ns := by rw [← e]; exact hi.numsOf
  rw [nums_intItems] at hn
  subst hn
  rw [e] at hl
  have hsz : 0 < xs.size := by simpa using hne
  refine min_intTup hh hl hsz fun v h' tk hv hk => ?_
  obtain ⟨t, rfl⟩ := intItems_at hv
  obtain ⟨h1, h2⟩ := argBest_lt (numAt xs) (xs.size - 1)
  refine h h' tk _ t hk ?_ fun a ha => ?_
  · rw [numAt_eq]; exact PySem.getD_mem (by rw [List.length_map, Array.length_toList]; omega)
  · obtain ⟨j, hj, rfl⟩ := mem_getD ha
    rw [List.length_map, Array.length_toList] at hj
    rw [← numAt_eq]; exact h2 j (by omega)
end
def rMinT (K : PySem.W.Frag) : List V → Hp → VK → Prop := fun vs H Q => ∃ (a : Addr) (ns : List Int), vs = [V.ref a] ∧ SqT K H a (ns.map V.int) ∧ 0 < ns.length ∧ ∀ m, m ∈ ns → (∀ y, y ∈ ns → m ≤ y) → Q (.int m) H
theorem cr_minT {X : Cx} (hc : X.calm = true) : CallR X (.builtin "min") (rMinT X.K) := by
  intro pins s σ H vs us Q I r h
  obtain ⟨a, ns, rfl, hs, hne, q⟩ := h
  obtain ⟨its, rv, hl, _⟩ := I.tuple hs
  rw [Vals.ref1 r]
  exact minT_raw (I.ok.hd hc) hl rv.ints hne fun h' tk m t' hk h1 h2 => ⟨.int _, H, I.kept hk, ⟨_, rfl⟩, q m h1 h2⟩
theorem k_minT {X : Cx} {K : PySem.W.Frag} (h : X.K = K) (hc : X.calm = true) : CallR X (.builtin "min") (rMinT K) := h ▸ cr_minT hc
end Fb

set_option maxHeartbeats 4000000
/-! defs that are called within an except suite and are told which exception is handled -/
namespace Fb
open PySem PySem.Spec PyProof.Rows L2 L2H
/-- the promise of such a def: p the exception and its object -/
structure FnS (P : Program) (w : World) (K : PySem.W.Frag) (mg : Str → Option Value) (base : Heap) (k : Nat) (f : Addr) (fd : FuncData) (ps : List Str) (sp : Addr × Obj → Sp) : Prop where
  len : ∀ p vs H Q E, sp p vs H Q E → vs.length = ps.length
  run : ∀ (A : Around) (fr : List Env) (s : Shared) (H : Hp) (args : Args) (us : List Value) (vs : List V) (Q : VK) (E : XK) (p : Addr × Obj),
    RoomH k A → PinOk fr H s p → Env0 P w K mg base A fr s H → BindsTo s fd args (ps.zip us) → Vals vs us → sp p vs H Q E → codeAny (model P w) A (.call (.ref f) args) (CR C8.CX0 fr P w H s Q E) s
abbrev cxS (P : Program) (w : World) (K : PySem.W.Frag) (mg : Str → Option Value) (base : Heap) (N : List Str) (x : Str) (sc : Scope) (f : Addr) (cdv : Value) (A : Around) (fr : List Env) (s : Shared) (H : Hp) (p : Addr × Obj) : Cx := cxH C8.CX0 P w K mg base N x sc f cdv A fr s H C8.E0 p
section
variable {P : Program} {w : World} {K : PySem.W.Frag} {mg : Str → Option Value} {base : Heap}
theorem fnS_of {x : Str} {st : Stmt} {f : Addr} {fd : FuncData} {k : Nat} {N ps : List Str} {sp : Addr × Obj → Sp} (F : Fun K x x st f fd) (S : FnScope N ps (defScope st)) (len : ∀ p vs H Q E, sp p vs H Q E → vs.length = ps.length)
    (body : ∀ (cdv : Value) (A : Around) (fr : List Env) (s : Shared) (H : Hp) (vs : List V) (Q : VK) (E : XK) (p : Addr × Obj), RoomH k (A.deeper (envOfC x (defScope st) s.heap.objs.size f cdv)) → sp p vs H Q E →
      ∃ t, PSs (cxS P w K mg base N x (defScope st) f cdv A fr s H p) (defBody st) t ∧ t { nx := fun _ H' => Q .non H', rt := Q } (L2.start N vs) H) : FnS P w K mg base (k + 1) f fd ps sp := by
  obtain ⟨oc, od, kV, doc, pm, an, cdv, ct, osl, rfl, lk, hcd⟩ := F.ex
  refine ⟨len, fun A fr s H args us vs Q E p hr hpin e0 hb r hsp => ?_⟩
  have KX : K.In s.heap := e0.mod.kin.keeps (fun b o e => (e0.bs b o e).1); have lim : s.heap.NoLimit := e0.mod.nolimit.keeps (fun b o e => (e0.bs b o e).1)
  refine codeAny_call_function hr.depth (KX _ _ lk) rfl S.co S.gen rfl (PySem.W.codeRec_of KX hcd) (hb _ _ _ _ (wpAny_newFunctionEnv_cells S.kind (fun ⟨n, v⟩ hy => ?_) fun env he s1 x1 => ?_))
  · exact (S.par n (List.of_mem_zip hy).1).imp id fun q => ⟨q, PySem.W.cellsFrom_some _ _ _ (.inl q)⟩
  · subst he
    refine ⟨lim.keeps x1.toInCall.keep, codeAny_func ?_⟩
    obtain ⟨t, ht, hq⟩ := body cdv A fr s H vs Q E p (hr.deeper _) hsp
    have I : Inv (cxS P w K mg base N x (defScope st) f cdv A fr s H p) [] (L2.start N vs) H s1 := inv_startH S hpin e0 (len _ _ _ _ _ hsp) r x1
    refine wpAny_mono (ht.run [] s1 (L2.start N vs) H _ I hq) (fun fl s' hs => ?_) (fun e s' hs => hs)
    cases fl with
    | ret u => exact (fun ⟨v, σ', H', J, rv, q⟩ => ⟨v, H', J.os, J.bare, J.base, J.hok, rv, q⟩) hs
    | next => exact (fun ⟨σ', H', J, q⟩ => ⟨.non, H', J.os, J.bare, J.base, J.hok, rfl, q⟩) hs
    | brk => exact hs.elim fun _ z => z.elim fun _ z => z.2.elim
    | cont => exact hs.elim fun _ z => z.elim fun _ z => z.2.elim
end
section
variable {X : Cx} {k : Nat} {f : Addr} {fd : FuncData} {ps : List Str} {sp : Addr × Obj → Sp} {x : Str} {q pos : Pos} {e : Expr} {es : List Expr} {t : TA} {p : Addr × Obj}
theorem pe_callP (F : FnS X.prog X.w X.K X.mg X.base k f fd ps sp) (hr : RoomH k X.A) (hp : p ∈ X.pn) (hg : Gl X x) (hm : X.mg x = some (.ref f)) (hk : PySem.W.keepIn X.K (.ref f) = true) (hb : Binds X.K fd ps []) (ha : PA X (e :: es) t)
    (hdb : (x == ("__debug__" : Str)) = false := by decide) (he : starEach (e :: es) X.env = (false, eval e X.env) :: starEach es X.env := by rfl) (hpl : (backTo pos (starEach es X.env)).any (·.1) = false := by rfl) : PE X (.Call (.Name x q) (e :: es) [] pos) (tCall (sp p) [] C8.E0 t) := by
  refine ⟨fun pins s σ H Q I h => wpAny_Call_Name_kw (ld_glob I hg hm ?_ hdb)⟩
  refine PySem.W.callWith_K (h₀ := X.base) I.ok.mod.kin hk (thn (ha.run pos pins s σ H _ I h) fun us s1 ⟨vs, H1, I1, r, h2⟩ => ⟨I1.kIn, ?_⟩) he hpl
  have h2 : sp p vs H1 Q C8.E0 := by have h3 : sp p (vs ++ []) H1 Q C8.E0 := h2; rwa [List.append_nil] at h3
  have hl : us.length = ps.length := r.length.symm.trans (F.len _ _ _ _ _ h2)
  have b := hb s1 us I1.kIn (by rwa [List.append_nil]); rw [List.append_nil] at b
  obtain ⟨p1, p2, p3, p4, p5⟩ := I1.pin p (List.mem_append_left _ hp)
  have hpin : PinOk X.stack H1 s1 p := ⟨p1, p2, (fun hm => (List.mem_cons.mp (I1.stkSub p.1 hm)).elim p3 p4), p5⟩
  show wpAny (model X.prog X.w) X.A (call (Value.ref f) us) (EP X pins σ Q) X.xe s1
  refine wpAny_call (codeAny_mono (F.run X.A X.stack s1 H1 ⟨us, []⟩ us vs Q C8.E0 p hr hpin I1.env0 b r h2) fun r s' hq => ?_)
  match r, hq with
  | .ok (.ret u), hq => exact I1.after hq
  | .ok .next, hq => exact hq.elim
  | .ok .brk, hq => exact hq.elim
  | .ok .cont, hq => exact hq.elim
/-- e.n, e the exception that is handled -/
def tXfP (K : PySem.W.Frag) (p : Addr × Obj) (n : Str) (te : TE) : TE := fun σ H Q => te σ H fun x H1 => x = .ref p.1 ∧ ∃ (C dd : Addr) (fs : List (Str × V)) (v : V), XfC K C ∧ PySem.W.findIn K (.ref C) n = some none ∧ Zc (.ref C) (some dd) p.2 ∧ (∃ vs, p.2.data = .fields vs) ∧ H1 dd = some (.xd fs) ∧ fs.lookup n = some v ∧ Q v H1
theorem pe_xfP {n : Str} {te : TE} (hp : p ∈ X.pn) (he : PE X e te) (hb : attributeBase e n X.env (eval e X.env) = eval e X.env := by rfl) : PE X (.Attribute e n pos) (tXfP X.K p n te) := by
  refine ⟨fun pins s σ H Q I h => attr_of hb (thn (he.run pins s σ H _ I h) fun u s1 hh => ?_)⟩
  obtain ⟨x, H1, I1, rx, rfl, C, dd, fs, v, T, hno, hz, ⟨vs, hd⟩, ea, l, q⟩ := hh
  obtain rfl : u = Value.ref p.1 := rx
  have ha := (I1.pin p (List.mem_append_left _ hp)).1
  obtain ⟨mA, hns, hr⟩ := (show ObjOk X.prog X.w H1 s1.heap dd (.xd fs) from I1.hok dd _ ea)
  obtain ⟨od, ho, hl⟩ := lookIn_ns hns
  obtain ⟨u, hu, ru⟩ := RelO.some_of (v := v) (o := mA n) (l ▸ hr n)
  have J : PySem.W.InstAt s1.heap p.1 p.2 C (some od) := ⟨ha, hz.1, (by unfold PySem.W.notCls; rw [hd] <;> rfl), (by rw [hz.2]; exact ho)⟩
  refine HandSPX.exc_get I1.kIn J T.ga T.gg T.exC (PySem.W.findObj_own T.hdC hno rfl ?_) (handed_of ru) ⟨v, H1, I1.tok _, ru, q⟩
  rw [hl, hu]
theorem k_xfP {K : PySem.W.Frag} {n : Str} {te : TE} (h : X.K = K) (hp : p ∈ X.pn) (he : PE X e te) (hb : attributeBase e n X.env (eval e X.env) = eval e X.env := by rfl) : PE X (.Attribute e n pos) (tXfP K p n te) := h ▸ pe_xfP hp he hb
theorem i_xfP {K : PySem.W.Frag} {n : Str} {te : TE} {σ : L2.St} {H : Hp} {Q : VK} (h : te σ H fun x H1 => x = .ref p.1 ∧ ∃ (C dd : Addr) (fs : List (Str × V)) (v : V), XfC K C ∧ PySem.W.findIn K (.ref C) n = some none ∧ Zc (.ref C) (some dd) p.2 ∧ (∃ vs, p.2.data = .fields vs) ∧ H1 dd = some (.xd fs) ∧ fs.lookup n = some v ∧ Q v H1) : tXfP K p n te σ H Q := h
end
end Fb

set_option maxHeartbeats 4000000
/-! list(bytes), bytes(list), texts' index -/
namespace Fb
open PySem PySem.Spec PyProof.Rows L2
section
variable {prog : Program} {w : World} {A : Around} {E : Value → Shared → Prop} {s : Shared} {b : Array UInt8} {t : Tok}
theorem byt_hint {Q : Bool → Shared → Prop} (h : Q false s) : wpAny (model prog w) A (Builtin.List.listLengthHint (.bytes b t)) Q E s := by
  have hT : s.TypeIs (.bytes b t) "bytes" := rfl
  unfold Builtin.List.listLengthHint; refine wpAny_bind (wpAny_specialOf hT PySem.W.FB.slot_bytes_len.lookup ?_)
  generalize hx : ("bytes.__len__" : String) = x0; wp_delta
  rw [show splitId x0 = some ("bytes", "__len__") by subst hx; decide +kernel]; subst hx
  refine wpAny_bind (wpAny_isInstance (T := "bytes") (b := true) hT (by rw [isSubtype_type]; kernel_rfl) (wpAny_ite_split (fun z => absurd z (by decide)) fun _ => wpAny_ite_split (fun _ => ?_) fun z => absurd (by decide +kernel) z))
  exact wpAny_bind (wpAny_typeOf hT (wpAny_pure h))
/-- what the iterator of bytes gives -/
abbrev BytAt (b : Array UInt8) (i : Nat) (v : Value) : Prop := ∃ (c : UInt8) (u : Tok), b[i]? = some c ∧ v = .int ((c.toNat : Nat) : Int) u
theorem walks_byt (hh : A.handled = none) (it : Addr) : Walks prog w A it [it] [it] b.size (BytAt b) (fun i h => PySem.W.KBw.IsBytesIter h it b t i) where
  sub := fun _ h => h
  frame := fun i h h' ⟨o, ho, r⟩ k => ⟨o, k it (by simp) o ho, r⟩
  item := fun i s Q E hi st hQ => PySem.W.KBw.next_item st (Array.getElem?_eq_getElem hi) fun h' st' sb => hQ _ h' _ ⟨_, _, Array.getElem?_eq_getElem hi, rfl⟩ st' fun a o ha e => (sb.2 a (by simpa using ha)).trans e
  done := fun s Q E st hQ => PySem.W.KBw.next_end hh st (Array.getElem?_eq_none (Nat.le_refl _)) fun h' eb => hQ h' s.toks fun a o ha e => eb a o (by simpa using ha) e
  self := fun i s Q E st h => PySem.W.KBw.pyIter_self st h
theorem byt_extend {R : Result → Shared → Prop} (hh : A.handled = none) (S : Addr) (c0 : Nat) (hS : s.heap.get? S = some { cls := .type "list", data := .seq #[] c0 }) (hn : b.size ≤ sizeLine)
    (hR : ∀ h' tk acc c, (∀ a o, a ≠ S → s.heap.get? a = some o → h'.get? a = some o) → h'.get? S = some { cls := .type "list", dict := none, data := .seq acc c, slots := #[] } → ItemsOf (BytAt b) acc b.size → R (.ok (.ret .none)) { s with heap := h', toks := tk }) :
    wpAny (model prog w) A.in1 (Builtin.List.listExtendWith (.ref S) (.bytes b t) .none) (fun fin s' => match fin with | .done f => R (.ok f) s' | .again c' => c'.quiet = true ∧ codeAny (model prog w) A c' R s') (fun e s' => R (.error e) s') s := by
  have hSI : S ≠ s.heap.objs.size := Nat.ne_of_lt (Heap.lt_size hS)
  have W := walks_byt (prog := prog) (w := w) (A := A.in1) (b := b) (t := t) hh s.heap.objs.size
  unfold Builtin.List.listExtendWith
  refine wpAny_bind (wpAny_typeOf (T := "bytes") (show s.TypeIs (.bytes b t) "bytes" from rfl) ?_)
  rw [show Builtin.List.listSameRef (.ref S) (.bytes b t) = false from rfl]
  simp only [show ((Value.type "bytes") == (Value.type "list")) = false by decide, show ((Value.type "bytes") == (Value.type "tuple")) = false by decide, Bool.or_false, Bool.false_eq_true, if_false]
  refine wpAny_bind (PySem.W.KBw.pyIter_bytes ?_)
  refine wpAny_bind (wpAny_holding (byt_hint ?_))
  refine wpAny_ite_split (fun z => absurd z (by decide +kernel)) (fun _ => wpAny_pure ⟨plainId_quiet PySem.F.plain_extend_loop _, ?_⟩)
  refine codeAny_extend_loopS W.toS hn S (by simpa using hSI) .none b.size 0 _ #[] c0 rfl (Nat.zero_le _) ⟨_, Heap.get?_push_size _ rfl, rfl, rfl⟩ (Heap.get?_push_of_some _ hS) (ItemsOf.nil _) fun s' acc c hm hS' hacc => ?_
  rw [Moved.eq_with hm]
  refine hR s'.heap s'.toks acc c (fun a o ha e => hm.heap a o (fun hmem => ?_) (Heap.get?_push_of_some _ e)) hS' hacc
  rcases List.mem_cons.mp hmem with e' | e'
  · exact ha e'
  · exact absurd (Heap.lt_size e) (by rw [List.mem_singleton.mp e']; exact Nat.lt_irrefl _)
theorem byt_init {R : Result → Shared → Prop} (hh : A.handled = none) (S : Addr) (hS : s.heap.get? S = some { cls := .type "list", data := .seq #[] }) (hn : b.size ≤ sizeLine)
    (hR : ∀ h' tk acc c, (∀ a o, a ≠ S → s.heap.get? a = some o → h'.get? a = some o) → h'.get? S = some { cls := .type "list", dict := none, data := .seq acc c, slots := #[] } → ItemsOf (BytAt b) acc b.size → R (.ok (.ret .none)) { s with heap := h', toks := tk }) :
    wpAny (model prog w) A.in1 (Builtin.«list.__init__» ⟨[.ref S, .bytes b t], []⟩) (fun fin s' => match fin with | .done f => R (.ok f) s' | .again c' => c'.quiet = true ∧ codeAny (model prog w) A c' R s') (fun e s' => R (.error e) s') s := by
  show wpAny _ _ (do let old ← Builtin.List.listItems (.ref S); Builtin.List.listUpdate (.ref S) (fun _ => #[]); letGo old.toList.reverse; Builtin.List.listExtendWith (.ref S) (.bytes b t) .none) _ _ s
  refine wpAny_bind ?_
  unfold Builtin.List.listItems
  refine wpAny_bind (wpAny_seqItems hS rfl (wpAny_pure (?_ : wpAny _ _ (updateSeq S (fun _ => #[]) >>= fun _ => letGo (#[] : Array Value).toList.reverse >>= fun _ => Builtin.List.listExtendWith (.ref S) (.bytes b t) .none) _ _ s)))
  refine wpAny_bind (wpAny_updateSeq hS rfl (wpAny_bind (wpAny_letGo ?_)))
  have oth : ∀ a o, a ≠ S → s.heap.get? a = some o → (s.heap.update S (Obj.mapSeq (fun _ => (#[] : Array Value)))).get? a = some o := fun a o ha e => (Heap.get?_update_other _ _ (Ne.symm ha)).trans e
  exact byt_extend hh S _ (Heap.get?_update_self (Obj.mapSeq (fun _ => (#[] : Array Value))) hS rfl) hn fun h' tk acc c hk hS' hacc => hR h' tk acc c (fun a o ha e => hk a o ha (oth a o ha e)) hS' hacc
theorem byt_list {Q : Value → Shared → Prop} (hh : A.handled = none) (hn : b.size ≤ sizeLine)
    (hQ : ∀ h' tk acc c, (∀ a o, s.heap.get? a = some o → h'.get? a = some o) → h'.get? s.heap.objs.size = some { cls := .type "list", dict := none, data := .seq acc c, slots := #[] } → ItemsOf (BytAt b) acc b.size → Q (.ref s.heap.objs.size) { s with heap := h', toks := tk }) :
    wpAny (model prog w) A (call (.type "list") [.bytes b t]) Q E s := by
  refine callType_codes (Q₁ := fun obj s₁ => obj = .ref s.heap.objs.size ∧ s₁ = { s with heap := s.heap.push { cls := .type "list", data := .seq #[] } }) PySem.F.called_list (PySem.F.typeCall_list_1 _) PySem.F.entry_list_init (code_list_new _ ⟨rfl, rfl⟩) (fun obj s₁ ⟨e1, e2⟩ => ?_)
  subst e1 e2
  have hS : (s.heap.push { cls := .type "list", data := .seq #[] }).get? s.heap.objs.size = some { cls := .type "list", data := .seq #[] } := Heap.get?_push_size _ rfl
  refine ⟨⟨_, hS, rfl⟩, PySem.F.args_list_init_2 _ _, byt_init (A := A.in1) hh _ hS hn fun h' tk acc c hk hS' hacc => ⟨rfl, hQ h' tk acc c (fun a o e => hk a o (Nat.ne_of_lt (Heap.lt_size e)) (Heap.get?_push_of_some _ e)) hS' hacc⟩⟩
end
/-- list(b), b bytes -/
def rListB : List V → Hp → VK → Prop := fun xs H Q => ∃ ns : List Int, xs = [.byt (byteArr ns)] ∧ B8 ns ∧ ns.length ≤ 1000000 ∧ ∀ l, H l = none → Q (.ref l) (upd H l (.lst (ns.map V.int)))
theorem call_listB {X : Cx} (hc : X.calm = true) : CallR X (.type "list") rListB := by
  intro pins s σ H xs us Q I r h
  obtain ⟨ns, rfl, hb, hl, q⟩ := h
  obtain ⟨u, rfl, rx⟩ := vals1 r
  obtain ⟨t, rfl⟩ := rx
  have hsz : (byteArr ns).size = ns.length := byteArr_size _
  refine byt_list (I.ok.hd hc) (by rw [hsz]; exact Nat.le_trans hl (by decide)) fun h' tk acc c kp e hacc => ?_
  refine ⟨.ref s.heap.objs.size, _, I.laid (t' := tk) kp (Nat.le_refl _) (show ObjOk X.prog X.w _ h' _ (.lst (ns.map V.int)) from ⟨by rw [List.length_map]; exact Nat.le_trans hl (by decide), acc.toList, c, ?_, by rw [Array.toArray_toList]; exact e⟩), rfl, q _ (I.hok.fresh (Nat.le_refl _))⟩
  refine vals_of_at (by have h1 := hacc.1; have h2 : acc.toList.length = acc.size := Array.length_toList; rw [List.length_map]; omega) fun j x v hx hv => ?_
  obtain ⟨d, u, hd, rfl⟩ := hacc.2 j v (by rw [← Array.getElem?_toList]; exact hv)
  have hi : (PySem.W.KBw.bInts (byteArr ns))[j]? = some (d.toNat : Int) := PySem.W.KBw.ints_get hd
  rw [PySem.W.KBa.ints_make hb] at hi
  rw [List.getElem?_map, hi] at hx
  obtain rfl := Option.some.inj hx
  exact ⟨u, rfl⟩
end Fb

set_option maxHeartbeats 4000000
/-! list comprehensions whose item may raise what the def passes on -/
namespace Fb
open PySem PySem.Spec PyProof.Rows L2 PySem.HandSPX
section
variable {M : Model} {A : Around} {E : Value → Shared → Prop} {s : Shared} {Z : Obj → Prop} {B B' : Heap} {env ce : Env} {outer l : List Env} {L C a : Addr} {h h' : Heap} {m : Str → Option Value} {fl : Value}
/-- a smaller ground -/
theorem funFrames_sub (k : ∀ b o, B'.get? b = some o → B.get? b = some o) : ∀ {l : List Env}, h.FunFrames B l → h.FunFrames B' l
  | [], _ => trivial
  | _ :: _, ⟨x1, ⟨p, o, x2, x3, x4⟩, x5⟩ => ⟨x1, ⟨p, o, x2, (by
      cases q : B'.get? p with
      | none => rfl
      | some o' => rw [k p o' q] at x3; cases x3), x4⟩, funFrames_sub k x5⟩
theorem heldZ_sub (k : ∀ b o, B'.get? b = some o → B.get? b = some o) (x : HeldZ B l a Z L h) : HeldZ B' l a Z L h := by
  have no : ∀ {p : Addr}, B.get? p = none → B'.get? p = none := fun {p} e => by
    cases q : B'.get? p with
    | none => rfl
    | some o => rw [k p o q] at e; cases e
  obtain ⟨x1, x2, x3, oe, vs, T, oT, ts, y1, y2, y3, y4, y5, y6⟩ := x
  exact ⟨fun b o e => x1 b o (k b o e), no x2, funFrames_sub k x3, oe, vs, T, oT, ts, y1, y2, y3, y4, no y5, y6⟩
/-- a note at another place goes on to the frame's own -/
theorem looks_heldZ (hZ : Steady Z) (hfr : A.frames = some (env :: outer)) (hf : env.frame = some L) (hCL : C ≠ L) (hh : HeldZ B (env :: outer) a Z C s.heap) {Q : Unit → Shared → Prop}
    (hQ : ∀ h', HeldZ B (env :: outer) a Z L h' → s.heap.UpToSlots h' → Q () { s with heap := h' }) : wpAny M A (noteFrame (.ref a) env) Q E s := by
  obtain ⟨hkb, hen, hl, oe, vs, T, oT, ts, he, hz, hd, h1, hnT, hTe, hT, hdT, h3⟩ := hh
  unfold noteFrame
  simp only [hf]
  refine wpAny_bind (wpAny_field he hd h1 ?_)
  rw [if_pos (show (Value.ref T != Value.none) = true from by simp)]
  refine wpAny_bind (wpAny_field hT hdT h3 ?_)
  rw [if_neg (show ¬ ((rawInt C == rawInt L) = true) from fun z => hCL (by
    have z := eq_of_beq z
    unfold rawInt at z
    injection z with z1
    exact Int.ofNat.inj z1))]
  refine wpAny_bind (wpAny_setField hT hdT (Array.getElem?_eq_some_iff.mp h3).1 ?_)
  have far : ∀ b, b ≠ T → (s.heap.update T (Obj.mapFields (·.setIfInBounds 3 Value.none))).get? b = s.heap.get? b := fun b hb => Heap.get?_update_other _ _ (Ne.symm hb)
  have nr : ∀ b o, s.heap.get? b = some o → (∀ vs, o.data ≠ .fields vs) → b ≠ T := fun b o hb hnf q => by
    rw [q, hT] at hb; injection hb with hb; subst hb; exact hnf ts hdT
  refine wpAny_entryZ hZ hfr (hl.of_keeps fun b o hb hnf => ⟨o, (far b (nr b o hb hnf)).trans hb, rfl⟩) hf ((far a (Ne.symm hTe)).trans he)
    (fun b o hbo => (far b fun q => by rw [q, hnT] at hbo; cases hbo).trans (hkb b o hbo)) hen hd (Array.getElem?_eq_some_iff.mp h1).1 hz fun h' hN => ?_
  obtain ⟨x1, x2, x3, x4⟩ := hN
  exact hQ h' ⟨x1, hen, x2, x3⟩ fun b o hb hnf => x4 b o ((far b (nr b o hb hnf)).trans hb) hnf
/-- held by the def's frame, it leaves the comprehension -/
theorem fails_heldZ (hf : ce.frame = some L) (hbC : B.get? ce.locals = none) (hn : s.heap.Ns ce.locals m) (hh : HeldZ B l a Z L s.heap)
    (hQ : ∀ h', HeldZ B l a Z L h' → (∀ b o, s.heap.get? b = some o → b ≠ ce.locals → (∀ vs, o.data ≠ .fields vs) → ∃ sl, h'.get? b = some { o with slots := sl }) → E (.ref a) { s with heap := h' }) : CompFails M A E ce (.ref a) s := by
  refine ⟨m, hn, fun h2 m2 hn2 sb => ?_⟩
  obtain ⟨b1, b0, f1, oe, vs, T, oT, ts, he, hz, hd, h1, hnT, hTe, hT, hdT, h3⟩ := hh
  obtain ⟨oL, es, ep, hoL, hdL, _⟩ := hn
  have rc : ∀ {b : Addr} {o : Obj} {vs : Array Value}, s.heap.get? b = some o → o.data = .fields vs → b ≠ ce.locals := fun {b o vs} e1 e2 q => by
    rw [q, hoL] at e1
    rw [← Option.some.inj e1, hdL] at e2
    cases e2
  have b2 : B.StaysIn h2 := fun b o hb => (sb.2 b fun q => by rw [q, hbC] at hb; cases hb).trans (b1 b o hb)
  have f2 : h2.FunFrames B l := Heap.FunFrames.sameBut sb hn2 f1
  have he2 := (sb.2 a (rc he hd)).trans he
  have hT2 := (sb.2 T (rc hT hdT)).trans hT
  unfold PySem.passOn
  refine wpAny_bind (wpAny_field he2 hd h1 ?_)
  rw [if_neg (show ¬ ((Value.ref T == Value.none) = true) from by simp), hf]
  refine wpAny_bind (setFlight_anyZ (l := l) (fl := rawInt L) (fr := some L) b2 f2 ⟨oe, vs, T, oT, ts, he2, hz, hd, h1, hnT, hTe, hT2, hdT, h3⟩ fun h3 b3 f3 t3 k3 => ?_)
  refine wpAny_throw ?_
  exact hQ h3 ⟨b3, b0, f3, t3⟩ fun b o hb hbL hnf => k3 b o ((sb.2 b hbL).trans hb) hnf
end
section
variable {X : Cx} {pins : List (Addr × Obj)} {σ : L2.St}
/-- the context of a comprehension's block whose item may raise -/
abbrev blkX (X : Cx) (z : Shared) (K : Hp) (scope : Scope) (ce : Env) (fp : List Addr) (xe : Value → Shared → Prop) : Cx := (X.blk z K scope ce fp).tr [] xe
/-- what the item lets out is in the def's air -/
theorem takes_blk {z : Shared} {K : Hp} {scope : Scope} {ce : Env} {fp : List Addr} {xe : Value → Shared → Prop} {E : XK} (hs : X.stack = X.env :: X.outer) (hf : X.env.frame = some X.env.locals) (tk : Takes X (fun cls d _ H => E cls d H)) (hcf : ce.frame = X.env.frame)
    (bk : Back X pins σ (blkX X z K scope ce fp xe)) (fpC : ∀ H : Hp, H ce.locals = none → FpOk X pins H ce.locals) {u : Value} {s' : Shared} (x : XE (blkX X z K scope ce fp xe) (fun cls d _ H => E cls d H) u s') :
    notedBy (model X.prog X.w) X.A ce (CompFails (model X.prog X.w) X.A X.xe ce) u s' := by
  obtain ⟨a, B, sI, p2, σ2, H2, cls, d, rfl, I2, nb, up, sky, na, os, ag, w⟩ := x
  have nfC : ce.locals ∉ frs X.stack := fun hb => by
    obtain ⟨_, o, ho, _⟩ := I2.ok.funs.mem (show ce.locals ∈ List.filterMap _ X.stack from hb)
    exact absurd (Nat.lt_of_lt_of_le (Heap.lt_size ho) I2.ok.above) (Nat.lt_irrefl _)
  have hL : X.env.locals ∈ frs X.stack := by
    unfold frs
    rw [hs, List.filterMap_cons, hf]
    exact List.mem_cons_self ..
  have hCL : ce.locals ≠ X.env.locals := fun e => nfC (by rw [e]; exact hL)
  have hfr : X.A.frames = some (X.env :: X.outer) := by
    rw [← hs]
    exact I2.ok.frames
  obtain ⟨m, hn, _⟩ := I2.loc
  have hn : sI.heap.Ns ce.locals m := hn
  have nC : H2 ce.locals = none := I2.free
  have IX := bk _ _ _ _ I2
  have kB : ∀ b o, (PySem.W.hideAll B [ce.locals]).get? b = some o → B.get? b = some o := fun b o q => PySem.W.of_hideAll _ q
  have fin : ∀ h1, HeldZ B (X.env :: X.outer) a (Zc cls d) X.env.locals h1 → s'.heap.UpToSlots h1 → CompFails (model X.prog X.w) X.A X.xe ce (.ref a) { s' with heap := h1 } := fun h1 hh up1 => by
    refine fails_heldZ (L := X.env.locals) (B := PySem.W.hideAll B [ce.locals]) (hcf.trans hf) (PySem.W.hideAll_none _ (by simp)) ((hn.upToSlots up).upToSlots up1) (heldZ_sub kB hh) fun h2 hh2 up2 => ?_
    obtain ⟨f0, f1, f2, f3, f4, f5⟩ := fpC H2 nC
    have IG : Inv X pins σ H2 { sI with heap := PySem.W.hideAll sI.heap [ce.locals] } := IX.turned (t' := sI.toks) (fun b o hb e => PySem.W.hideAll_get _ e (by simpa using hb)) f0 f1 f3 f4 f5
    have out : ∀ {b : Addr} {o : Obj}, (PySem.W.hideAll sI.heap [ce.locals]).get? b = some o → sI.heap.get? b = some o ∧ b ≠ ce.locals := fun {b o} q => by
      refine ⟨PySem.W.of_hideAll _ q, fun e => ?_⟩
      rw [e, PySem.W.hideAll_none _ (by simp)] at q
      cases q
    refine tk _ _ ⟨a, PySem.W.hideAll B [ce.locals], { sI with heap := PySem.W.hideAll sI.heap [ce.locals] }, pins, σ, H2, cls, d, rfl, IG, fun b o q hb => ?_, fun b o q hnf => ?_, .inr (.inr (hs ▸ hh2)), na, os, ag, w⟩
    · obtain ⟨q1, q2⟩ := out q
      exact PySem.W.hideAll_get _ (nb b o q1 hb) (by simpa using q2)
    · obtain ⟨q1, q2⟩ := out q
      obtain ⟨sl, e1⟩ := up b o q1 hnf
      obtain ⟨sl1, e2⟩ := up1 b _ e1 hnf
      obtain ⟨sl2, e3⟩ := up2 b _ e2 q2 hnf
      exact ⟨sl2, e3⟩
  show wpAny _ X.A (noteFrame (.ref a) ce) _ _ s'
  rw [noteFrame_env _ hcf]
  have sky : Sky B (X.env :: X.outer) a (Zc cls d) ce.locals s'.heap := hs ▸ sky
  rcases sky with ⟨hB, hn0, hl, oe, vs, he, hz, hd, h1⟩ | fl | hh
  · exact look_newZ Zc.steady hfr hl hf he hB hn0 hd h1 hz fin
  · exact looks_onZ Zc.steady hfr hf fl fin
  · exact looks_heldZ Zc.steady hfr hf hCL hh fin
/-- a comprehension's end, by its use -/
theorem ends_error {M : Model} {A : Around} {E : Value → Shared → Prop} {use : Option (Value → Sem Unit)} {Q : Value → Shared → Prop} {acc : Value} {ce : Env} {x : Value} {s' : Shared} (h : CompFails M A E ce x s') : compEnds M A E use Q acc ce (.error x) s' := by
  cases use <;> exact h
theorem lc_coreX {s : Shared} {H : Hp} {Q : VK} {E : XK} {elt tg iter : Expr} {ifs : List Expr} {scope : Scope} {own : List (Str × Nat)} {pos pos' : Pos} {wi : TI} {g : TG} {tt : TT} {te : TE} {use : Option (Value → Sem Unit)} {Qf : Value → Shared → Prop}
    (hc : X.calm = true) (hN : X.N.Nodup) (hst : X.stack = X.env :: X.outer) (hf : X.env.frame = some X.env.locals) (tk : Takes X (fun cls d _ H => E cls d H)) (I : Inv X pins σ H s) (hi : PI X tg iter wi) (ok : BlkOk X.N X.env.scope scope own)
    (hg : ∀ (s : Shared) (H : Hp) (C : Addr) (cl : List (Str × Addr)) (fp : List Addr) (xe : Value → Shared → Prop), PG (blkX X s H scope (compEnvC scope cl C X.env) fp xe) tg g)
    (ht : ∀ (s : Shared) (H : Hp) (C : Addr) (cl : List (Str × Addr)) (fp : List Addr) (xe : Value → Shared → Prop), PTs (blkX X s H scope (compEnvC scope cl C X.env) fp xe) ifs tt)
    (he : ∀ (s : Shared) (H : Hp) (C : Addr) (cl : List (Str × Addr)) (fp : List Addr) (xe : Value → Shared → Prop), Takes (blkX X s H scope (compEnvC scope cl C X.env) fp xe) (fun cls d _ H => E cls d H) → PE (blkX X s H scope (compEnvC scope cl C X.env) fp xe) elt te)
    (hs : ∀ x, foldedSetIterable iter X.env x = pure x) (h : tLc wi g tt te (own.map (·.2)) σ H Q)
    (hRR : ∀ D ce s' m H', Inv X pins σ H' s' → Q (.ref D) H' → s'.heap.Ns ce.locals m → FpOk X pins H' ce.locals → compEnds (model X.prog X.w) X.A X.xe use Qf (.ref D) ce (.ok .next) s') :
    wpAny (model X.prog X.w) X.A (comprehension (.ListComp elt [⟨tg, iter, ifs, 0⟩] scope pos) scope X.env pos' (newList []) false (eval iter X.env) use) Qf X.xe s := by
  have hfree : ∀ y ∈ scope.names, y.2 = .free → ∃ c, X.env.cells.lookup y.1 = some c := fun y hy e => I.ok.has _ (ok.free y hy e)
  refine comprehension_at (use := use) rfl hs (closure_ok hfree) ok.kind (fun y hy e => by rw [ok.uniq y hy, e]) (thn (hi.run pins s σ H _ I h) fun xv s1 hx => thn hx fun itv s2 h2 => ?_)
  obtain ⟨it, fp, tn, J, H2, rfl, I2, T, st2, f2, q⟩ := h2
  refine wpAny_newObj_type (newEnv_comp ?_) (by show 0 ≤ sizeLine; decide)
  generalize hD : s2.heap.objs.size = D
  have hDn : H2 D = none := I2.hok.fresh (Nat.le_of_eq hD)
  obtain ⟨W, ⟨m0, w0⟩, turn⟩ := q D hDn
  obtain ⟨s3, hs3⟩ : ∃ s3 : Shared, s3 = { s2 with heap := s2.heap.push { cls := .type "list", data := .seq ([] : List Value).toArray } } := ⟨_, rfl⟩
  have h3 : s3.heap = s2.heap.push { cls := .type "list", data := .seq ([] : List Value).toArray } := by rw [hs3]
  have I3 : Inv X pins σ (upd H2 D (.lst [])) s3 := by
    rw [hs3]
    refine I2.laid (t' := s2.toks) (fun b o e => Heap.get?_push_of_some _ e) (Nat.le_of_eq hD) ⟨Nat.zero_le _, [], 0, .nil, ?_⟩
    rw [← hD]
    exact Heap.get?_push_size _ rfl
  have low : ∀ b ∈ fp, b < s2.heap.objs.size := fun b hb => by
    obtain ⟨_, e, _⟩ := T.obj _ _ st2 b hb
    exact Heap.lt_size e
  generalize hH3 : upd H2 D (.lst []) = H3 at I3 w0
  have f3 : ∀ b ∈ fp, FpOk X pins H3 b ∧ b < s3.heap.objs.size := fun b hb => by
    refine ⟨⟨?_, (f2 b hb).2⟩, by rw [h3, Heap.size_push]; exact Nat.lt_succ_of_lt (low b hb)⟩
    rw [← hH3, upd_ne (by rw [← hD]; exact Nat.ne_of_lt (low b hb))]
    exact (f2 b hb).1
  have st3 : tn 0 s3.heap := T.keep _ _ _ st2 fun b _ o e => by rw [h3]; exact Heap.get?_push_of_some _ e
  have I4 := block_start I3 ok hN f3
  obtain ⟨ce, hce⟩ : ∃ ce, ce = compEnvC scope (cellsFrom (s3.heap.objs.size + 1) scope.names (cloFrom X.env.cells scope.names [])) s3.heap.objs.size X.env := ⟨_, rfl⟩
  have cL : ce.locals = s3.heap.objs.size := by rw [hce]; rfl
  have cF : ce.frame = X.env.frame := by rw [hce]; rfl
  obtain ⟨xe, hxe⟩ : ∃ xe : Value → Shared → Prop, xe = notedBy (model X.prog X.w) X.A ce (CompFails (model X.prog X.w) X.A X.xe ce) := ⟨_, rfl⟩
  have I4 : Inv (blkX X s3 H3 scope ce fp xe) [] (wipe σ (own.map (·.2))) H3 { s3 with heap := pushCells (s3.heap.push { cls := .type "dict", data := .dict #[] }) scope.names } := by
    rw [← hce] at I4
    exact I4.toTry xe
  have bk : Back X pins σ (blkX X s3 H3 scope ce fp xe) := fun p2 σ2 H2 s2 J2 => I3.call' (ch := fp) J2.os J2.base J2.hok J2.bare fun b hb => ⟨(f3 b hb).1.2.2.2.1, (f3 b hb).1.2.1, (f3 b hb).1.2.2.2.2.1, (f3 b hb).1.2.2.2.2.2⟩
  have fpC : ∀ H : Hp, H ce.locals = none → FpOk X pins H ce.locals := fun H n => by
    rw [cL] at n ⊢
    exact I3.fpOk (Nat.le_refl _) n
  have tkB : Takes (blkX X s3 H3 scope ce fp xe) (fun cls d _ H => E cls d H) := fun u s' x => by
    show xe u s'
    have z := takes_blk hst hf tk cF bk fpC x
    rw [hxe]
    exact z
  have pg : PG (blkX X s3 H3 scope ce fp xe) tg g := hce ▸ hg s3 H3 s3.heap.objs.size _ fp xe
  have pt : PTs (blkX X s3 H3 scope ce fp xe) ifs tt := hce ▸ ht s3 H3 s3.heap.objs.size _ fp xe
  have pe : PE (blkX X s3 H3 scope ce fp xe) elt te := by
    have z := he s3 H3 s3.heap.objs.size (cellsFrom (s3.heap.objs.size + 1) scope.names (cloFrom X.env.cells scope.names [])) fp xe
    rw [← hce] at z
    exact z tkB
  have e0 : ({ s2 with heap := s2.heap.push { cls := .type "list", data := .seq ([] : List Value).toArray } } : Shared) = s3 := hs3.symm
  rw [e0]
  show codeAny _ _ (.compStart (.ListComp elt [⟨tg, iter, ifs, 0⟩] scope pos) 0 (.ref it) (.ref D) (compEnvC scope (cellsFrom (s3.heap.objs.size + 1) scope.names (cloFrom X.env.cells scope.names [])) s3.heap.objs.size X.env)) (compEnds (model X.prog X.w) X.A X.xe use Qf (.ref D) (compEnvC scope (cellsFrom (s3.heap.objs.size + 1) scope.names (cloFrom X.env.cells scope.names [])) s3.heap.objs.size X.env)) { s3 with heap := pushCells (s3.heap.push { cls := .type "dict", data := .dict #[] }) scope.names }
  rw [← hce]
  obtain ⟨s4, hs4⟩ : ∃ s4 : Shared, s4 = { s3 with heap := pushCells (s3.heap.push { cls := .type "dict", data := .dict #[] }) scope.names } := ⟨_, rfl⟩
  rw [← hs4] at I4 ⊢
  have st4 : tn 0 s4.heap := T.keep _ _ _ st3 fun b _ o e => by rw [hs4]; exact pushCells_keeps _ _ _ _ (Heap.get?_push_of_some _ e)
  have stat : ∀ {p2 : List (Addr × Obj)} {σ2 : L2.St} {H' : Hp} {s' : Shared}, Inv (blkX X s3 H3 scope ce fp xe) p2 σ2 H' s' → p2 = [] → (∀ b ∈ fp, H' b = none) → ∀ b ∈ fp, FpOk (blkX X s3 H3 scope ce fp xe) p2 H' b := by
    intro p2 σ2 H' s' J e n b hb
    subst e
    obtain ⟨x1, x2⟩ := J.ok.exf b hb
    exact ⟨n b hb, x1, J.ok.exfs b hb, .inl hb, x2, fun p hp => (List.not_mem_nil (show p ∈ ([] : List (Addr × Obj)) from hp)).elim⟩
  have thX : ∀ {α : Type} {t : Sem α} {P1 P2 : α → Shared → Prop} {z : Shared}, wpAny (model X.prog X.w) X.A t P1 xe z → (∀ a s, P1 a s → P2 a s) → wpAny (model X.prog X.w) X.A t P2 (notedBy (model X.prog X.w) X.A ce fun e s' => compEnds (model X.prog X.w) X.A X.xe use Qf (.ref D) ce (.error e) s') z := fun h1 h2 => by
    refine wpAny_mono h1 h2 fun u z' hu => ?_
    rw [hxe] at hu
    exact wpAny_mono hu (fun _ _ c => ends_error c) fun _ _ c => ends_error c
  let Pre : Nat → Shared → Prop := fun n z => ∃ i Hz, Inv (blkX X s3 H3 scope ce fp xe) [] (wipe σ (own.map (·.2))) Hz z ∧ tn i z.heap ∧ (∀ b ∈ fp, Hz b = none) ∧ W i n Hz
  have loop : codeAny (model X.prog X.w) X.A (.compLoop (.ListComp elt [⟨tg, iter, ifs, 0⟩] scope pos) 0 (.ref it) (.ref D) ce) (compEnds (model X.prog X.w) X.A X.xe use Qf (.ref D) ce) s4 := by
    refine compLoop_any Pre (fun n z hz => ?_) m0 ⟨0, H3, I4, st4, fun b hb => (f3 b hb).1.1, w0⟩
    obtain ⟨i, Hz, Iz, stz, nz, wz⟩ := hz
    rcases turn i n Hz wz with ⟨stop, fin⟩ | ⟨go, Nx, more, step⟩
    · refine thnF (T.done (blkX X s3 H3 scope ce fp xe) rfl rfl rfl hc i [] z _ Hz (fun _ _ => False) Iz (stat Iz rfl nz) stz stop) fun r z1 ⟨hr, I1⟩ => ?_
      subst hr
      obtain ⟨m, ns, _⟩ := I1.loc
      exact hRR D ce z1 m Hz (bk _ _ _ _ I1) fin ns (fpC Hz I1.free)
    · refine thnF (T.item (blkX X s3 H3 scope ce fp xe) rfl rfl rfl hc i [] z _ Hz (fun _ _ => False) Iz (stat Iz rfl nz) stz go) fun r z1 ⟨u, hr, h6⟩ => ?_
      subst hr
      refine thnF h6 fun _ z2 ⟨x, Hy, I5, r2, y2, st5, n2⟩ => ?_
      refine thX (pg.run _ z2 _ Hy x u _ (I5.pinned (stat I5 rfl n2) (T.obj _ _ st5)) r2 (step x Hy y2)) fun _ z3 ⟨σ3, Hw, I6, hw3, q3⟩ => ?_
      refine thX (pt.run _ z3 σ3 Hw _ I6 q3) fun t z4 ⟨Hv, I7, q4⟩ => ?_
      have next : ∀ {y : Shared} {Hq : Hp}, Inv (blkX X s3 H3 scope ce fp xe) ([] ++ pinsAt fp z2.heap) σ3 Hq y → Nx Hq → ∃ k, k < n ∧ Pre k y := by
        intro y Hq Iy nx
        obtain ⟨k, hk, wk⟩ := more Hq nx
        have held : ∀ b ∈ fp, ∃ o, z2.heap.get? b = some o ∧ y.heap.get? b = some o ∧ Hq b = none := fun b hb => by
          obtain ⟨o, e, _⟩ := T.obj _ _ st5 b hb
          obtain ⟨p1, p2, _⟩ := Iy.pin (b, o) (List.mem_append_right _ (List.mem_append_right _ (mem_pinsAt hb e)))
          exact ⟨o, e, p1, p2⟩
        refine ⟨k, hk, i + 1, Hq, (Iy.unpinned (pins := [])).weak (by rw [← hw3, wipe_length]) (fun j v e => ?_), T.keep _ _ _ st5 fun b hb o e => ?_, fun b hb => ?_, wk⟩
        · rw [← hw3] at e
          exact (wipe_some e).1
        · obtain ⟨o', e1, e2, _⟩ := held b hb
          rw [e] at e1
          cases e1
          exact e2
        · obtain ⟨_, _, _, e3⟩ := held b hb
          exact e3
      cases t with
      | false =>
        rw [if_neg Bool.false_ne_true] at q4 ⊢
        exact next I7 q4
      | true =>
        rw [if_pos rfl] at q4 ⊢
        refine thX (pe.run _ z4 σ3 Hv _ I7 q4) fun v z5 ⟨yv, H5, I8, r5, acc, hD5, hz5, nx⟩ => ?_
        exact app_ok (X := blkX X s3 H3 scope ce fp xe) I8 hD5 hz5 r5 fun z6 I9 => next I9 nx
  exact codeAny_compStart_list loop (T.self X.A 0 _ _ _ st4 loop)
end
section
variable {X : Cx} {E : XK} {elt tg iter : Expr} {ifs : List Expr} {scope : Scope} {own : List (Str × Nat)} {pos spos : Pos} {wi : TI} {g : TG} {tt : TT} {te : TE}
/-- as a value -/
theorem pe_lcX (hc : X.calm = true) (hN : X.N.Nodup) (hst : X.stack = X.env :: X.outer) (hf : X.env.frame = some X.env.locals) (tk : Takes X (fun cls d _ H => E cls d H)) (hi : PI X tg iter wi) (ok : BlkOk X.N X.env.scope scope own)
    (hg : ∀ (s : Shared) (H : Hp) (C : Addr) (cl : List (Str × Addr)) (fp : List Addr) (xe : Value → Shared → Prop), PG (blkX X s H scope (compEnvC scope cl C X.env) fp xe) tg g)
    (ht : ∀ (s : Shared) (H : Hp) (C : Addr) (cl : List (Str × Addr)) (fp : List Addr) (xe : Value → Shared → Prop), PTs (blkX X s H scope (compEnvC scope cl C X.env) fp xe) ifs tt)
    (he : ∀ (s : Shared) (H : Hp) (C : Addr) (cl : List (Str × Addr)) (fp : List Addr) (xe : Value → Shared → Prop), Takes (blkX X s H scope (compEnvC scope cl C X.env) fp xe) (fun cls d _ H => E cls d H) → PE (blkX X s H scope (compEnvC scope cl C X.env) fp xe) elt te)
    (hs : ∀ x, foldedSetIterable iter X.env x = pure x := by intro _; rfl) : PE X (.ListComp elt [⟨tg, iter, ifs, 0⟩] scope pos) (tLc wi g tt te (own.map (·.2))) := by
  refine ⟨fun pins s σ H Q I h => ?_⟩
  rw [eval_ListComp]
  refine lc_coreX hc hN hst hf tk I hi ok hg ht he hs h fun D ce s' m H' I' q hn f => ⟨m, hn, fun h'' sb => ?_⟩
  obtain ⟨f0, f1, f2, f3, f4, f5⟩ := f
  exact ⟨.ref D, H', I'.turned (t' := s'.toks) (fun b o hb e => (sb.2 b hb).trans e) f0 f1 f3 f4 f5, rfl, q⟩
/-- name = [..] on one line -/
theorem ps_setLcX {i : Nat} {y : Str} {py : Pos} (hc : X.calm = true) (hN : X.N.Nodup) (hst : X.stack = X.env :: X.outer) (hf : X.env.frame = some X.env.locals) (tk : Takes X (fun cls d _ H => E cls d H)) (hy : X.N[i]? = some y) (hyl : X.env.scope.names.lookup y = some .local)
    (hsw : swapsWith (.ListComp elt [⟨tg, iter, ifs, 0⟩] scope pos) (some (.Name y py)) spos.line X.env = pure true) (hi : PI X tg iter wi) (ok : BlkOk X.N X.env.scope scope own)
    (hg : ∀ (s : Shared) (H : Hp) (C : Addr) (cl : List (Str × Addr)) (fp : List Addr) (xe : Value → Shared → Prop), PG (blkX X s H scope (compEnvC scope cl C X.env) fp xe) tg g)
    (ht : ∀ (s : Shared) (H : Hp) (C : Addr) (cl : List (Str × Addr)) (fp : List Addr) (xe : Value → Shared → Prop), PTs (blkX X s H scope (compEnvC scope cl C X.env) fp xe) ifs tt)
    (he : ∀ (s : Shared) (H : Hp) (C : Addr) (cl : List (Str × Addr)) (fp : List Addr) (xe : Value → Shared → Prop), Takes (blkX X s H scope (compEnvC scope cl C X.env) fp xe) (fun cls d _ H => E cls d H) → PE (blkX X s H scope (compEnvC scope cl C X.env) fp xe) elt te)
    (hs : ∀ x, foldedSetIterable iter X.env x = pure x := by intro _; rfl) : PS X (.Assign [.Name y py] (.ListComp elt [⟨tg, iter, ifs, 0⟩] scope pos) spos) (tAsg (tLc wi g tt te (own.map (·.2))) (gName i)) := by
  refine ⟨fun pins s σ H D I h => ?_⟩
  rw [exec_Assign_Name_used _ _ _ _ hsw]
  refine wpAny_bind (wpAny_standAt (wpAny_bind ?_))
  show wpAny _ X.A (do let _ ← comprehension (.ListComp elt [⟨tg, iter, ifs, 0⟩] scope pos) scope X.env (firstIterPos [⟨tg, iter, ifs, 0⟩] pos) (newList []) false (eval iter X.env) (some (assign (.Name y py) X.env))) _ _ s
  have h : tLc wi g tt te (own.map (·.2)) σ H (fun x H1 => gName i x σ H1 D.nx) := h
  refine wpAny_bind (thn (lc_coreX (Qf := fun _ s' => SP X pins D .next s') hc hN hst hf tk I hi ok hg ht he hs h fun L ce s' m H' I' q hn f => ?_) fun _ s' hq => wpAny_pure (wpAny_pure hq))
  show wpAny _ _ (assign (.Name y py) X.env (.ref L)) _ _ _
  refine wpAny_assign_Name (store_ok2 (v := V.ref L) I' hN hy (.inl hyl) rfl (fun s2 I2 ⟨a, sb, ha⟩ => ?_) (.inr hyl))
  obtain ⟨f0, f1, f2, f3, f4, f5⟩ := f
  have haC : ce.locals ≠ a := by
    rcases ha with z | z
    · rw [z]; exact f1
    · exact fun e => f4 y a z e.symm
  refine ⟨m, hn.sameBut sb haC, fun h3 sb3 => ?_⟩
  exact ⟨_, H', I2.turned (t' := s2.toks) (fun b o hb e => (sb3.2 b hb).trans e) f0 f1 f3 f4 f5, q⟩
end
end Fb

set_option maxHeartbeats 4000000
/-! g(lambda a=0: ..): the lambda is made on the spot, with its default -/
namespace Fb
open PySem PySem.Spec PyProof.Rows L2 PySem.HandSPX
/-- the lambda is made, then told to g -/
def tLamD (T : List (Addr × Str)) (q : Str) (env : Env) (d : LamD) (t : XK → TE) (TT : (XK → Hp → VK → Prop) → Hp → VK → Prop) : TE := fun σ H Q =>
  tLamV T q (cloFrom env.cells d.scope.names []) d σ H fun u H1 => ∃ f, u = .ref f ∧ LamAt q (cloFrom env.cells d.scope.names []) d f H1 ∧ TT (fun E H' Q' => LamAt q (cloFrom env.cells d.scope.names []) d f H' ∧ t E σ H' Q') H1 Q
theorem i_lamD {Q : VK} {T : List (Addr × Str)} {q : Str} {env : Env} {d : LamD} {t : XK → TE} {TT : (XK → Hp → VK → Prop) → Hp → VK → Prop} {σ : L2.St} {H : Hp} (h : LamX.Tabs T H ∧ ∀ (f : Addr) (H1 : Hp), LamX.ExtN H H1 → LamX.Tabs T H1 → LamAt q (cloFrom env.cells d.scope.names []) d f H1 → TT (fun E H' Q' => LamAt q (cloFrom env.cells d.scope.names []) d f H' ∧ t E σ H' Q') H1 Q) : tLamD T q env d t TT σ H Q :=
  ⟨h.1, fun f H1 e1 t1 a => ⟨f, rfl, a, h.2 f H1 e1 t1 a⟩⟩
theorem pe_lamD {X : Cx} {x a : Str} {sg : Stmt} {Ng : List Str} {TT : (XK → Hp → VK → Prop) → Hp → VK → Prop} {d : LamD} {t : XK → TE} {T : List (Addr × Str)} {k : Nat} {params : Arguments} {body : Expr} {scope : Scope} {lpos p pos : Pos}
    (D : DefIn X.K X.mg x x sg) (Sg : FnScope Ng [a] (defScope sg))
    (b : ∀ (kV doc pm : Value) (an : Option Addr) (cdv ct : Value) (us : List Value), us.length = 1 → bindArgs (PySem.W.fnOf x x (defArgs sg) (defBody sg) (defScope sg) .none kV doc pm an cdv ct) ⟨us, []⟩ = pure ([a].zip us))
    (G : ∀ (g : Addr) (cdg : Value), LamX.GivesTo X Ng x (defScope sg) g cdg (defBody sg) a (X.env.qual ++ "<lambda>") TT) (good : LamGood X k d t) (hr : Room (k + 2) X.A)
    (he : PE X (.Lambda params body scope lpos) (tLamV T (X.env.qual ++ "<lambda>") (cloFrom X.env.cells d.scope.names []) d))
    (hNg : Ng[0]? = some a := by rfl) (hva : Vis (defScope sg) a := by first | exact Or.inl rfl | exact Or.inr (Or.inl rfl) | exact Or.inr rfl) (hg : Gl X x := by rfl)
    (hdb : (x == ("__debug__" : Str)) = false := by decide) (hd : (a == ("__debug__" : Str)) = false := by decide) (hcd : (a == ("__classdict__" : Str)) = false := by decide) :
    PE X (.Call (.Name x p) [.Lambda params body scope lpos] [] pos) (tLamD T (X.env.qual ++ "<lambda>") X.env d t TT) := by
  refine ⟨fun pins' s σ H Q J h => ?_⟩
  obtain ⟨g, fd, F, hm⟩ := D.ex
  have hb : L2.Binds X.K fd [a] [] := F.binds (ps := [a]) b
  have hkp := F.kp
  obtain ⟨oc, od, kV, doc, pm, an, cdv, ct, osl, rfl, lk, hcg⟩ := F.ex
  refine wpAny_Call_Name_kw (ld_glob J hg hm ?_ hdb)
  refine PySem.W.callWith_K (h₀ := X.base) J.ok.mod.kin hkp ?_ (by rfl) (by rfl)
  show wpAny _ _ (spliced ((false, eval (.Lambda params body scope lpos) X.env) :: backTo pos (starEach [] X.env))) _ _ s
  refine Calls.spliced_cons (thn (he.run pins' s σ H _ J h) fun u s1 ⟨w, H1, J1, r1, f, q1, hL, hT⟩ => ?_)
  subst q1
  obtain rfl : u = Value.ref f := r1
  refine Calls.spliced_nil ⟨J1.kIn, ?_⟩
  obtain ⟨c', hco⟩ : ∃ c', H1 c' = some (LamX.CodeO c' (X.env.qual ++ "<lambda>")) := by
    obtain ⟨c', _, _, _, _, _, z, _⟩ := hL
    exact ⟨c', z⟩
  have rc : codeAny (model X.prog X.w) X.A (.call (.ref g) ⟨[.ref f], []⟩) (CR C8.CX0 X.stack X.prog X.w H1 s1 Q C8.E0) s1 := by
    refine LamX.run_ofS (N := Ng) (ps := [a]) (us := [.ref f]) (vs := [.ref f]) lk hcg Sg hr J1.env0 (hb s1 [.ref f] J1.kIn rfl) (.cons rfl .nil) rfl fun hr' => ?_
    obtain ⟨t', ht', hq'⟩ := G g cdv f c' s1 H1 Q (fun E H' Q' => LamAt (X.env.qual ++ "<lambda>") (cloFrom X.env.cells d.scope.names []) d f H' ∧ t E σ H' Q') (fun W pn xe E p1 p2 tk hW => by
      have act := pe_actV (i := 0) (p1 := p1) (p2 := p2) (f := f) J1 good tk hW hr' hNg hva hd hcd
      exact ⟨fun pZ sZ σZ HZ QZ IZ ⟨z1, _, z3⟩ => act.run pZ sZ σZ HZ QZ IZ ⟨z1, z3⟩⟩) hco hT
    exact ⟨t', ht'.nox, hq'⟩
  refine wpAny_call (codeAny_mono rc fun r s2 hq => ?_)
  match r, hq with
  | .error e, hq => exact (show False from hq).elim
  | .ok (.ret u), hq => exact J1.after hq
  | .ok .next, hq => exact hq.elim
  | .ok .brk, hq => exact hq.elim
  | .ok .cont, hq => exact hq.elim
end Fb

set_option maxHeartbeats 4000000
/-! x, *xs = a tuple or a list -/
namespace Fb
open PySem PySem.Spec PyProof.Rows L2
section
variable {prog : Program} {w : World} {A : Around} {E : Value → Shared → Prop} {s : Shared}
theorem walks_shift {I : Addr} {fp wr : List Addr} {n k : Nat} {P : Nat → Value → Prop} {St : Nat → Heap → Prop} (W : Walks prog w A I fp wr n P St) (hk : k ≤ n) : Walks prog w A I fp wr (n - k) (fun i => P (i + k)) (fun i => St (i + k)) where
  sub := W.sub
  frame := fun i => W.frame (i + k)
  item := fun i s Q E hi st hQ => W.item (i + k) s Q E (by omega) st fun v h' tk hP st' hk => hQ v h' tk hP (by rw [show i + 1 + k = i + k + 1 by omega]; exact st') hk
  done := fun s Q E st hQ => W.done s Q E (by rw [show n - k + k = n by omega] at st; exact st) hQ
  self := fun i s Q E st hQ => W.self (i + k) s Q E st hQ
theorem itemsOf_tail {x : Value} {xs : List Value} {acc : Array Value} {m : Nat} (hm : m = xs.length) (h : ItemsOf (fun i v => (x :: xs).toArray[i + 1]? = some v) acc m) : acc.toList = xs := by
  obtain ⟨h1, h2⟩ := h
  refine List.ext_getElem? fun j => ?_
  by_cases hj : j < acc.size
  · have e := h2 j acc[j] (by simp [hj])
    simp at e
    rw [e, Array.getElem?_toList]
    simp [hj]
  · rw [List.getElem?_eq_none (by simp; omega), List.getElem?_eq_none (by omega)]
theorem unpackItems_starL {l : Addr} {x : Value} {xs : List Value} {Q : List Value → Shared → Prop} (hh : A.handled = none) (hl : s.heap.IsList l (x :: xs).toArray) (hz : xs.length ≤ sizeLine)
    (hQ : ∀ (h' : Heap) (tk : Nat), (∀ b o, s.heap.get? b = some o → h'.get? b = some o) → Q [x, .ref h'.objs.size] { s with heap := h'.push { cls := .type "list", data := .seq xs.toArray }, toks := tk }) : wpAny (model prog w) A (unpackItems (.ref l) 2 (some 1)) Q E s := by
  have hlt : l ≠ s.heap.objs.size := by obtain ⟨o, ho, _⟩ := hl; exact Nat.ne_of_lt (Heap.lt_size ho)
  unfold unpackItems
  refine wpAny_bind ?_
  unfold notIterableAtAll
  refine wpAny_bind (wpAny_specialOf hl.typeIs slot_list_iter.lookup ?_)
  refine wpAny_pure ?_
  simp only [Bool.false_eq_true, if_false]
  refine wpAny_bind (wpAny_holding (wpAny_pyIter_list hl ?_))
  refine wpAny_bind (wpAny_holding (PySem.W.kun_draw (items := (x :: xs).toArray) hlt 1 0 _ _ ⟨_, Heap.get?_push_size _ rfl, rfl, rfl⟩ (hl.push _) (by simp) fun h₁ hit₁ hs₁ => ?_))
  have hall : List.take 1 (List.drop 0 (x :: xs).toArray.toList) = [x] := by simp
  rw [hall]
  rw [if_neg (by simp)]
  have hl₁ : h₁.IsList l (x :: xs).toArray := (hl.push _).extBut hs₁.extBut hlt
  have hiS : s.heap.objs.size < h₁.objs.size := by obtain ⟨o, ho, _⟩ := hit₁; exact Heap.lt_size ho
  have hlS : l < h₁.objs.size := by obtain ⟨o, ho, _⟩ := hl₁; exact Heap.lt_size ho
  have W := walks_shift (k := 1) (Walks.list (prog := prog) (w := w) (A := A.in1) hh s.heap.objs.size l hlt (x :: xs).toArray) (by simp)
  refine wpAny_bind (wpAny_holding (wpAny_collect_iter (.inr (.inr (.inl rfl))) W.toS (fun i s st => st.1.typeIs) ⟨hit₁, hl₁⟩ (fun b hb => ?_) (by simp) (fun s' acc hm ha => ?_) (by simp; omega)))
  · rcases List.mem_cons.mp hb with rfl | hb
    · exact hiS
    · rw [List.mem_singleton.mp hb]; exact hlS
  · have ea : acc.toList = xs := itemsOf_tail (by simp) ha
    rw [ea]
    simp only [Nat.sub_self, Nat.not_lt_zero, if_false, Nat.sub_zero, List.take_length, List.drop_length]
    refine wpAny_bind (wpAny_newObj_type ?_ (by show xs.toArray.size ≤ _; simpa using hz))
    refine wpAny_pure ?_
    rw [Moved.eq_with hm]
    exact hQ s'.heap s'.toks fun b o e => hm.heap b o (fun hb => by
      rw [List.mem_singleton.mp hb] at e
      exact absurd (Heap.lt_size e) (Nat.lt_irrefl _)) (hs₁.extBut b o (Nat.ne_of_lt (Heap.lt_size e)) (Heap.get?_push_of_some _ e))
theorem unpackItems_starT {l : Addr} {x : Value} {xs : List Value} {Q : List Value → Shared → Prop} (hh : A.handled = none) (hl : IsTup s.heap l (x :: xs).toArray) (hz : xs.length ≤ sizeLine)
    (hQ : ∀ (h' : Heap) (tk : Nat), (∀ b o, s.heap.get? b = some o → h'.get? b = some o) → Q [x, .ref h'.objs.size] { s with heap := h'.push { cls := .type "list", data := .seq xs.toArray }, toks := tk }) : wpAny (model prog w) A (unpackItems (.ref l) 2 (some 1)) Q E s := by
  have hlt : l ≠ s.heap.objs.size := by obtain ⟨o, ho, _⟩ := hl; exact Nat.ne_of_lt (Heap.lt_size ho)
  unfold unpackItems
  refine wpAny_bind ?_
  unfold notIterableAtAll
  refine wpAny_bind (wpAny_specialOf hl.typeIs slot_tuple_iter.lookup ?_)
  refine wpAny_pure ?_
  simp only [Bool.false_eq_true, if_false]
  refine wpAny_bind (wpAny_holding (iter_tuple hl ?_))
  refine wpAny_bind (wpAny_holding (draw_tuple (items := (x :: xs).toArray) hlt 1 0 _ _ ⟨_, Heap.get?_push_size _ rfl, rfl, rfl⟩ (hl.push _) (by simp) fun h₁ hit₁ hs₁ => ?_))
  have hall : List.take 1 (List.drop 0 (x :: xs).toArray.toList) = [x] := by simp
  rw [hall]
  rw [if_neg (by simp)]
  have hl₁ : IsTup h₁ l (x :: xs).toArray := (hl.push _).extBut hs₁.extBut hlt
  have hiS : s.heap.objs.size < h₁.objs.size := by obtain ⟨o, ho, _⟩ := hit₁; exact Heap.lt_size ho
  have hlS : l < h₁.objs.size := by obtain ⟨o, ho, _⟩ := hl₁; exact Heap.lt_size ho
  have W := walks_shift (k := 1) (Walks.tuple (prog := prog) (w := w) (A := A.in1) hh s.heap.objs.size l hlt (x :: xs).toArray) (by simp)
  refine wpAny_bind (wpAny_holding (wpAny_collect_iter (.inr (.inr (.inr rfl))) W.toS (fun i s st => st.1.typeIs) ⟨hit₁, hl₁⟩ (fun b hb => ?_) (by simp) (fun s' acc hm ha => ?_) (by simp; omega)))
  · rcases List.mem_cons.mp hb with rfl | hb
    · exact hiS
    · rw [List.mem_singleton.mp hb]; exact hlS
  · have ea : acc.toList = xs := itemsOf_tail (by simp) ha
    rw [ea]
    simp only [Nat.sub_self, Nat.not_lt_zero, if_false, Nat.sub_zero, List.take_length, List.drop_length]
    refine wpAny_bind (wpAny_newObj_type ?_ (by show xs.toArray.size ≤ _; simpa using hz))
    refine wpAny_pure ?_
    rw [Moved.eq_with hm]
    exact hQ s'.heap s'.toks fun b o e => hm.heap b o (fun hb => by
      rw [List.mem_singleton.mp hb] at e
      exact absurd (Heap.lt_size e) (Nat.lt_irrefl _)) (hs₁.extBut b o (Nat.ne_of_lt (Heap.lt_size e)) (Heap.get?_push_of_some _ e))
end
section
variable {X : Cx} {pos : Pos} {K : PySem.W.Frag}
def gStar (K : PySem.W.Frag) (g1 g2 : TG) : TG := fun v σ H Q => ∃ a x xs, v = .ref a ∧ (SqL K H a (x :: xs) ∨ SqT K H a (x :: xs)) ∧ ∀ p, H p = none → g1 x σ (upd H p (.lst xs)) fun σ' H' => g2 (.ref p) σ' H' Q
theorem pg_star {e1 e2 : Expr} {p1 : Pos} {k : Nat} {g1 g2 : TG} (hK : X.K = K) (hc : X.calm = true) (h1 : PG X e1 g1) (h2 : PG X e2 g2)
    (h : assignEach [e1, .Starred e2 p1] X.env = [(false, assign e1 X.env), (true, assign e2 X.env)] := by rfl) : PG X (.Tuple [e1, .Starred e2 p1] k pos) (gStar K g1 g2) := by
  subst hK
  refine ⟨fun pins s σ H v u Q I r hw => ?_⟩
  obtain ⟨a, x, xs, e1', hq, hw⟩ := hw
  subst e1'
  cases r
  have fin : ∀ {v0 : Value} {vs : List Value}, RelV x v0 → Vals xs vs → xs.length ≤ sizeLine → ∀ (h' : Heap) (tk : Nat), (∀ b o, s.heap.get? b = some o → h'.get? b = some o) →
      wpAny (model X.prog X.w) X.A (assignInOrder [assign e1 X.env, assign e2 X.env] [v0, .ref h'.objs.size]) (fun _ s2 => ∃ σ' H', Inv X pins σ' H' s2 ∧ Q σ' H') X.xe { s with heap := h'.push { cls := .type "list", data := .seq vs.toArray }, toks := tk } := by
    intro v0 vs r0 rs hz h' tk hk
    have I1 : Inv X pins σ H { s with heap := h', toks := tk } := I.kept hk
    have hf : H h'.objs.size = none := I1.hok.fresh (Nat.le_refl _)
    have I2 : Inv X pins σ (upd H h'.objs.size (.lst xs)) { s with heap := h'.push { cls := .type "list", data := .seq vs.toArray }, toks := tk } := I1.laid (t' := tk) (fun b u e => Heap.get?_push_of_some _ e) (Nat.le_refl _) ⟨hz, vs, 0, rs, Heap.get?_push_size _ rfl⟩
    refine assignInOrder_cons (thn (h1.run pins _ σ _ x v0 _ I2 r0 (hw _ hf)) fun _ s1 ⟨σ1, H1, J1, q1⟩ => ?_)
    refine assignInOrder_cons (thn (h2.run pins s1 σ1 H1 (.ref h'.objs.size) _ _ J1 rfl q1) fun _ s2 q2 => ?_)
    exact assignInOrder_nil q2
  rw [PyProof.Rows.assign_Tuple]
  refine wpAny_bind (wpAny_standAt ?_)
  unfold unpack
  rw [h]
  show wpAny _ _ (holding [Value.ref a] (unpackItems (Value.ref a) 2 (some 1)) >>= fun us => assignInOrder [assign e1 X.env, assign e2 X.env] us) _ _ _
  rcases hq with hq | hq
  · obtain ⟨its, rv, pl, hz⟩ := I.list hq
    cases rv with
    | cons r0 rs =>
      rename_i v0 vs
      have hl : s.heap.IsList a (v0 :: vs).toArray := by
        obtain ⟨o, m, e, c, d, q⟩ := pl
        exact ⟨o, e, c, m, q⟩
      have hz' : vs.length ≤ sizeLine := by rw [← rs.length]; exact Nat.le_of_succ_le hz
      exact wpAny_bind (wpAny_holding (unpackItems_starL (I.ok.hd hc) hl hz' fun h' tk hk => fin r0 rs (Nat.le_of_succ_le hz) h' tk hk))
  · obtain ⟨its, rv, ht, hz⟩ := I.tuple hq
    cases rv with
    | cons r0 rs =>
      rename_i v0 vs
      have hz' : vs.length ≤ sizeLine := by rw [← rs.length]; exact Nat.le_of_succ_le hz
      exact wpAny_bind (wpAny_holding (unpackItems_starT (I.ok.hd hc) ht hz' fun h' tk hk => fin r0 rs (Nat.le_of_succ_le hz) h' tk hk))
theorem i_star {g1 g2 : TG} {a : Addr} {x : V} {xs : List V} {σ : L2.St} {H : Hp} {Q : L2.St → Hp → Prop} (hq : SqL K H a (x :: xs) ∨ SqT K H a (x :: xs)) (h : ∀ p, H p = none → g1 x σ (upd H p (.lst xs)) fun σ' H' => g2 (.ref p) σ' H' Q) : gStar K g1 g2 (.ref a) σ H Q := ⟨a, x, xs, rfl, hq, h⟩
end
end Fb

open PySem PySem.Spec PyProof.Rows L2 in
local macro_rules | `(tactic| walk_at "go1") => `(tactic| with_reducible first
  | refine Fb.i_seq ?_ | refine Fb.i_asg ?_ | refine Fb.i_name ?_ | refine Fb.i_if ?_ | refine Fb.i_ret ?_ | refine Fb.i_retN ?_ | refine Fb.i_next ?_ | refine Fb.i_drop ?_ | refine Fb.i_brk ?_ | refine Fb.i_cont ?_
  | (refine' Fb.i_var ?e ?_; (case e => with_unfolding_all exact rfl))
  | refine Fb.i_c ?_ | refine Fb.i_op ?_ | refine Fb.i_un ?_ | refine Fb.i_I0 ?_ | refine Fb.i_U ?_ | refine Fb.i_eqI ?_ | refine Fb.i_neI ?_ | refine Fb.i_eqS ?_ | refine Fb.i_neS ?_ | refine Fb.i_eqB ?_ | refine Fb.i_neB ?_
  | refine Fb.i_test ?_ | refine Fb.i_tB ?_ | refine Fb.i_bl ?_ | refine Fb.i_and ?_ | refine Fb.i_or ?_ | refine Fb.i_not ?_ | refine Fb.i_andV ?_ | refine Fb.i_orV ?_ | refine Fb.i_notV ?_ | refine Fb.i_ifE ?_ | refine Fb.i_chain ?_
  | refine Fb.i_nil ?_ | refine Fb.i_cons ?_ | refine Fb.i_cb ?_ | refine Fb.i_call ?_ | refine Fb.i_tup ?_ | refine Fb.i_lst ?_ | refine Fb.i_for ?_ | refine Fb.i_iL ?_ | refine Fb.i_iT ?_ | refine Fb.i_iR ?_ | refine Fb.i_iR3 ?_ | refine Fb.i_intB ?_ | refine Fb.i_dc ?_ | refine Fb.i_listVals ?_ | refine Fb.i_iK ?_ | refine Fb.i_iE ?_ | refine Fb.i_iS ?_ | refine Fb.i_inC ?_ | refine Fb.i_iZ ?_ | refine Fb.i_lc ?_ | refine Fb.i_lenSet ?_ | refine Fb.i_augS ?_ | refine Fb.i_ipI ?_
  | (refine' Fb.i_aug ?e ?_; (case e => with_unfolding_all exact rfl))
  | refine Fb.i_bmT ?_ | refine Fb.i_bm ?_ | refine Fb.i_bm0 ?_ | refine Fb.i_dget ?_ | refine Fb.i_din ?_ | refine Fb.i_dnotin ?_ | refine Fb.i_dget2 ?_ | refine Fb.i_dput ?_
  | refine Fb.i_max ?_ | refine Fb.i_min ?_ | refine Fb.i_int ?_ | refine Fb.i_gcons ?_ | refine Fb.i_gnil ?_ | refine Fb.i_gsub ?_ | refine Fb.i_fld ?_ | refine Fb.i_meth ?_ | refine Fb.i_sfld ?_ | refine Fb.i_yes ?_ | refine Fb.i_par ?_ | refine Fb.i_par3 ?_)
local macro_rules | `(tactic| walk_at "go") => `(tactic| repeat (first | walk_at "go1" | dsimp only [L2.kV]))
open PySem PySem.Spec PyProof.Rows L2 in
local macro_rules | `(tactic| walk_at "gi1") => `(tactic| with_reducible first
  | refine Fb.i_seq ?_ | refine Fb.i_asg ?_ | refine Fb.i_name ?_ | refine Fb.i_ret ?_ | refine Fb.i_retN ?_ | refine Fb.i_next ?_ | refine Fb.i_drop ?_ | refine Fb.i_brk ?_ | refine Fb.i_cont ?_
  | (refine' Fb.i_var ?e ?_; (case e => with_unfolding_all exact rfl))
  | refine Fb.i_c ?_ | refine Fb.i_op ?_ | refine Fb.i_un ?_ | refine Fb.i_I0 ?_ | refine Fb.i_U ?_ | refine Fb.i_eqI ?_ | refine Fb.i_neI ?_ | refine Fb.i_eqS ?_ | refine Fb.i_neS ?_ | refine Fb.i_eqB ?_ | refine Fb.i_neB ?_
  | refine Fb.i_test ?_ | refine Fb.i_tB ?_ | refine Fb.i_bl ?_ | refine Fb.i_and ?_ | refine Fb.i_or ?_ | refine Fb.i_not ?_ | refine Fb.i_notV ?_ | refine Fb.i_chain ?_
  | refine Fb.i_nil ?_ | refine Fb.i_cons ?_ | refine Fb.i_cb ?_ | refine Fb.i_call ?_ | refine Fb.i_tup ?_ | refine Fb.i_lst ?_ | refine Fb.i_for ?_ | refine Fb.i_iL ?_ | refine Fb.i_iT ?_ | refine Fb.i_iR ?_ | refine Fb.i_iR3 ?_ | refine Fb.i_intB ?_ | refine Fb.i_dc ?_ | refine Fb.i_listVals ?_ | refine Fb.i_iK ?_ | refine Fb.i_iE ?_ | refine Fb.i_iS ?_ | refine Fb.i_inC ?_ | refine Fb.i_iZ ?_ | refine Fb.i_lc ?_ | refine Fb.i_lenSet ?_ | refine Fb.i_augS ?_ | refine Fb.i_ipI ?_
  | (refine' Fb.i_aug ?e ?_; (case e => with_unfolding_all exact rfl))
  | refine Fb.i_bmT ?_ | refine Fb.i_bm ?_ | refine Fb.i_bm0 ?_ | refine Fb.i_dget ?_ | refine Fb.i_din ?_ | refine Fb.i_dnotin ?_ | refine Fb.i_dget2 ?_ | refine Fb.i_dput ?_
  | refine Fb.i_max ?_ | refine Fb.i_min ?_ | refine Fb.i_int ?_ | refine Fb.i_gcons ?_ | refine Fb.i_gnil ?_ | refine Fb.i_gsub ?_ | refine Fb.i_fld ?_ | refine Fb.i_meth ?_ | refine Fb.i_sfld ?_ | refine Fb.i_yes ?_ | refine Fb.i_par ?_ | refine Fb.i_par3 ?_)
local macro_rules | `(tactic| walk_at "gi") => `(tactic| repeat (first | walk_at "gi1" | dsimp only [L2.kV]))
local macro_rules | `(tactic| walk_at "begin") => `(tactic| ((try (dsimp only [L2.cxOf, L2.Cx.nox, L2.Cx.wish, L2.Cx.blk])); walk_at "go"))
local macro_rules | `(tactic| walk_at "sq") => `(tactic| first
  | assumption
  | (refine' Fb.TupAt.sq (Fb.TupAt.keep (Fb.Stt.tk ?s) ?h); (case s => assumption); (case h => assumption))
  | (refine' L2.Same.seq (Fb.Stt.same ?s) ?h; (case s => assumption); (case h => assumption))
  | (refine' Fb.Stt.sqL ?s 0 ?e; (case s => assumption); (case e => exact rfl))
  | (refine' Fb.Stt.sqL ?s 1 ?e; (case s => assumption); (case e => exact rfl))
  | (refine' Fb.Stt.sqL ?s 2 ?e; (case s => assumption); (case e => exact rfl))
  | (refine' Fb.Stt.sqL ?s 3 ?e; (case s => assumption); (case e => exact rfl))
  | (refine' Fb.Stt.sqL ?s 4 ?e; (case s => assumption); (case e => exact rfl))
  | (refine' Fb.Stt.sqL ?s 5 ?e; (case s => assumption); (case e => exact rfl))
  | (refine' Fb.Stt.sqT ?s 0 ?e; (case s => assumption); (case e => exact rfl))
  | (refine' Fb.Stt.sqT ?s 1 ?e; (case s => assumption); (case e => exact rfl))
  | (refine' Fb.Stt.sqT ?s 2 ?e; (case s => assumption); (case e => exact rfl))
  | (refine' Fb.Stt.sqT ?s 3 ?e; (case s => assumption); (case e => exact rfl))
  | (refine' Fb.Stt.sqT ?s 4 ?e; (case s => assumption); (case e => exact rfl))
  | (refine' Fb.Stt.sqT ?s 5 ?e; (case s => assumption); (case e => exact rfl))
  | (refine' Fb.Stt.sqT ?s 6 ?e; (case s => assumption); (case e => exact rfl)))
local macro_rules | `(tactic| walk_at "at") => `(tactic| first
  | (refine' Fb.Stt.at ?s 0 ?e; (case s => assumption); (case e => exact rfl))
  | (refine' Fb.Stt.at ?s 1 ?e; (case s => assumption); (case e => exact rfl))
  | (refine' Fb.Stt.at ?s 2 ?e; (case s => assumption); (case e => exact rfl))
  | (refine' Fb.Stt.at ?s 3 ?e; (case s => assumption); (case e => exact rfl))
  | (refine' Fb.Stt.at ?s 4 ?e; (case s => assumption); (case e => exact rfl))
  | (refine' Fb.Stt.at ?s 5 ?e; (case s => assumption); (case e => exact rfl)))

/-! the text of the law, by places; what the top leaves -/
namespace Fb
open PySem PySem.Spec PyProof.Rows L2
def top (i : Nat) : Stmt := PySem.Challenge.pw_fullboats_k50_texts_round_trip.main.body.getD i (.Pass ⟨0, 0, 0, 0⟩)
abbrev s_InvalidNetwork___init : Stmt := inClass (top 2) 0
abbrev s_InvalidName___init : Stmt := inClass (top 9) 0
abbrev s_UnknownCheckpoint___init : Stmt := inClass (top 10) 0
abbrev s_InvalidOperation___init : Stmt := inClass (top 11) 0
abbrev s_ScriptSyntaxError___init : Stmt := inClass (top 12) 0
abbrev s_InvalidText___init : Stmt := inClass (top 13) 0
abbrev s_InvalidData___init : Stmt := inClass (top 14) 0
abbrev s_InvalidEntry___init : Stmt := inClass (top 15) 0
abbrev s_is_port : Stmt := top 21
abbrev s_is_valid_place : Stmt := top 22
abbrev s_first_invalid_seat : Stmt := top 23
abbrev s_validate_network : Stmt := top 24
abbrev s_is_valid_state : Stmt := top 26
abbrev s_validate_state : Stmt := top 27
abbrev s_format_network : Stmt := top 33
abbrev s_format_state : Stmt := top 34
abbrev s_consists_of : Stmt := top 35
abbrev s_parse_number : Stmt := top 36
abbrev s_parse_place : Stmt := top 37
abbrev s_parse_network : Stmt := top 38
abbrev s_parse_numbers : Stmt := top 39
abbrev s_parse_state : Stmt := top 40
abbrev s_law_start : Stmt := top 42
abbrev s_law_drawn : Stmt := top 43
abbrev s_law_same : Stmt := top 44
abbrev s_law_attributes : Stmt := top 45
abbrev s_law_outcome : Stmt := top 46
abbrev s_law_network : Stmt := top 47
abbrev s_law_random_state : Stmt := top 48
abbrev s_law_integer : Stmt := top 49
abbrev s_law_place : Stmt := top 50
abbrev s_law_invalid : Stmt := top 51
abbrev s_law_network_of : Stmt := top 52
abbrev s_law_state_of : Stmt := top 53
abbrev s_law_changed : Stmt := top 54
abbrev s_law : Stmt := top 55
theorem sc_is_port : FnScope ["place"] ["place"] (defScope s_is_port) := ⟨rfl, rfl, rfl, by decide +kernel, rfl, by decide +kernel, by decide +kernel⟩
theorem sc_is_valid_place : FnScope ["network", "station", "place", "letter"] ["network", "station", "place"] (defScope s_is_valid_place) := ⟨rfl, rfl, rfl, by decide +kernel, rfl, by decide +kernel, by decide +kernel⟩
theorem sc_first_invalid_seat : FnScope ["network", "station", "seats", "seat", "place"] ["network", "station"] (defScope s_first_invalid_seat) := ⟨rfl, rfl, rfl, by decide +kernel, rfl, by decide +kernel, by decide +kernel⟩
theorem sc_validate_network : FnScope ["network", "station", "seat"] ["network"] (defScope s_validate_network) := ⟨rfl, rfl, rfl, by decide +kernel, rfl, by decide +kernel, by decide +kernel⟩
theorem sc_is_valid_state : FnScope ["network", "state", "next_passenger", "queues", "queue", "waiting", "seats", "passenger"] ["network", "state"] (defScope s_is_valid_state) := ⟨rfl, rfl, rfl, by decide +kernel, rfl, by decide +kernel, by decide +kernel⟩
theorem sc_validate_state : FnScope ["network", "state"] ["network", "state"] (defScope s_validate_state) := ⟨rfl, rfl, rfl, by decide +kernel, rfl, by decide +kernel, by decide +kernel⟩
theorem sc_format_network : FnScope ["network", "seats", "place"] ["network"] (defScope s_format_network) := ⟨rfl, rfl, rfl, by decide +kernel, rfl, by decide +kernel, by decide +kernel⟩
theorem sc_format_state : FnScope ["network", "state", "lines", "queue", "passenger"] ["network", "state"] (defScope s_format_state) := ⟨rfl, rfl, rfl, by decide +kernel, rfl, by decide +kernel, by decide +kernel⟩
theorem sc_consists_of : FnScope ["text", "characters", "character"] ["text", "characters"] (defScope s_consists_of) := ⟨rfl, rfl, rfl, by decide +kernel, rfl, by decide +kernel, by decide +kernel⟩
theorem sc_parse_number : FnScope ["text"] ["text"] (defScope s_parse_number) := ⟨rfl, rfl, rfl, by decide +kernel, rfl, by decide +kernel, by decide +kernel⟩
theorem sc_parse_place : FnScope ["text"] ["text"] (defScope s_parse_place) := ⟨rfl, rfl, rfl, by decide +kernel, rfl, by decide +kernel, by decide +kernel⟩
theorem sc_parse_network : FnScope ["text", "stations", "row", "line", "seats", "network", "word"] ["text"] (defScope s_parse_network) := ⟨rfl, rfl, rfl, by decide +kernel, rfl, by decide +kernel, by decide +kernel⟩
theorem sc_parse_numbers : FnScope ["line", "keyword", "head", "words", "numbers", "word"] ["line", "keyword"] (defScope s_parse_numbers) := ⟨rfl, rfl, rfl, by decide +kernel, rfl, by decide +kernel, by decide +kernel⟩
theorem sc_parse_state : FnScope ["network", "text", "lines", "first", "queues", "row", "queue", "state"] ["network", "text"] (defScope s_parse_state) := ⟨rfl, rfl, rfl, by decide +kernel, rfl, by decide +kernel, by decide +kernel⟩
theorem sc_law_start : FnScope ["_law_script", "_law_mixed", "_law_cell"] ["_law_script"] (defScope s_law_start) := ⟨rfl, rfl, rfl, by decide +kernel, rfl, by decide +kernel, by decide +kernel⟩
theorem sc_law_drawn : FnScope ["_law_state", "_law_count", "_law_result", "_law_cell"] ["_law_state", "_law_count"] (defScope s_law_drawn) := ⟨rfl, rfl, rfl, by decide +kernel, rfl, by decide +kernel, by decide +kernel⟩
theorem sc_law_same : FnScope ["_law_result", "_law_expected", "_law_k"] ["_law_result", "_law_expected"] (defScope s_law_same) := ⟨rfl, rfl, rfl, by decide +kernel, rfl, by decide +kernel, by decide +kernel⟩
theorem sc_law_attributes : FnScope ["_law_e", "_law_name"] ["_law_e", "_law_name"] (defScope s_law_attributes) := ⟨rfl, rfl, rfl, by decide +kernel, rfl, by decide +kernel, by decide +kernel⟩
theorem sc_law_outcome : FnScope ["_law_work", "_law_e", "_law_kinds", "_law_names"] ["_law_work"] (defScope s_law_outcome) := ⟨rfl, rfl, rfl, by decide +kernel, rfl, by decide +kernel, by decide +kernel⟩
theorem sc_law_network : FnScope ["_law_state", "_law_most", "_law_size", "_law_network_here", "_law_station", "_law_seats", "_law_seat", "_law_later"] ["_law_state", "_law_most"] (defScope s_law_network) := ⟨rfl, rfl, rfl, by decide +kernel, rfl, by decide +kernel, by decide +kernel⟩
theorem sc_law_random_state : FnScope ["_law_state", "_law_network_here", "_law_high", "_law_queues", "_law_used", "_law_seats", "_law_queue", "_law_k", "_law_passenger"] ["_law_state", "_law_network_here"] (defScope s_law_random_state) := ⟨rfl, rfl, rfl, by decide +kernel, rfl, by decide +kernel, by decide +kernel⟩
theorem sc_law_integer : FnScope ["_law_word", "_law_one"] ["_law_word"] (defScope s_law_integer) := ⟨rfl, rfl, rfl, by decide +kernel, rfl, by decide +kernel, by decide +kernel⟩
theorem sc_law_place : FnScope ["_law_word", "_law_one"] ["_law_word"] (defScope s_law_place) := ⟨rfl, rfl, rfl, by decide +kernel, rfl, by decide +kernel, by decide +kernel⟩
theorem sc_law_invalid : FnScope ["_law_network_here", "_law_station", "_law_seat", "_law_place_here", "_law_wrong"] ["_law_network_here"] (defScope s_law_invalid) := ⟨rfl, rfl, rfl, by decide +kernel, rfl, by decide +kernel, by decide +kernel⟩
theorem sc_law_network_of : FnScope ["_law_text", "_law_lines", "_law_rows", "_law_wrong", "_law_network_here", "_law_line", "_law_row", "_law_word"] ["_law_text"] (defScope s_law_network_of) := ⟨rfl, rfl, rfl, by decide +kernel, rfl, by decide +kernel, by decide +kernel⟩
theorem sc_law_state_of : FnScope ["_law_network_here", "_law_text", "_law_lines", "_law_rows", "_law_row", "_law_words", "_law_numbers", "_law_waiting", "_law_good", "_law_long", "_law_k", "_law_word", "_law_one"] ["_law_network_here", "_law_text"] (defScope s_law_state_of) := ⟨rfl, rfl, rfl, by decide +kernel, rfl, by decide +kernel, by decide +kernel⟩
theorem sc_law_changed : FnScope ["_law_state", "_law_text", "_law_at", "_law_branch", "_law_character", "_law_lines", "_law_row", "_law_changed_here"] ["_law_state", "_law_text"] (defScope s_law_changed) := ⟨rfl, rfl, rfl, by decide +kernel, rfl, by decide +kernel, by decide +kernel⟩
theorem sc_law : FnScope ["_law_script", "_law_state", "_law_turn", "_law_change", "_law_works", "_law_expected", "_law_network_here", "_law_other", "_law_position", "_law_text", "_law_seats", "_law_work", "_law_queue", "_law_place_here", "_law_one"] ["_law_script"] (defScope s_law) := ⟨rfl, rfl, rfl, by decide +kernel, rfl, by decide +kernel, by decide +kernel⟩
def lam_law_0 : LamD := (lamsIn 6 (defBody s_law)).getD 0 default
theorem lb_law_0 : LamB lam_law_0 := .one' (a := "_law_b") rfl rfl (fun _ _ _ _ _ _ _ => ⟨_, rfl, fun _ => rfl⟩) rfl
def lam_law_1 : LamD := (lamsIn 6 (defBody s_law)).getD 1 default
theorem lb_law_1 : LamB lam_law_1 := .one' (a := "_law_c") rfl rfl (fun _ _ _ _ _ _ _ => ⟨_, rfl, fun _ => rfl⟩) rfl
def lam_law_2 : LamD := (lamsIn 6 (defBody s_law)).getD 2 default
theorem lb_law_2 : LamB lam_law_2 := .one' (a := "_law_d") rfl rfl (fun _ _ _ _ _ _ _ => ⟨_, rfl, fun _ => rfl⟩) rfl
def lam_law_3 : LamD := (lamsIn 6 (defBody s_law)).getD 3 default
theorem lb_law_3 : LamB lam_law_3 := .one' (a := "_law_e") rfl rfl (fun _ _ _ _ _ _ _ => ⟨_, rfl, fun _ => rfl⟩) rfl
def lam_law_4 : LamD := (lamsIn 6 (defBody s_law)).getD 4 default
theorem lb_law_4 : LamB lam_law_4 := .one' (a := "_law_f") rfl rfl (fun _ _ _ _ _ _ _ => ⟨_, rfl, fun _ => rfl⟩) rfl
def lam_law_5 : LamD := (lamsIn 6 (defBody s_law)).getD 5 default
theorem lb_law_5 : LamB lam_law_5 := .one' (a := "_law_g") rfl rfl (fun _ _ _ _ _ _ _ => ⟨_, rfl, fun _ => rfl⟩) rfl
structure All (K : PySem.W.Frag) (mg : Str → Option Value) : Prop where
  d_is_port : DefIn K mg "is_port" "is_port" s_is_port
  d_is_valid_place : DefIn K mg "is_valid_place" "is_valid_place" s_is_valid_place
  d_first_invalid_seat : DefIn K mg "first_invalid_seat" "first_invalid_seat" s_first_invalid_seat
  d_validate_network : DefIn K mg "validate_network" "validate_network" s_validate_network
  d_is_valid_state : DefIn K mg "is_valid_state" "is_valid_state" s_is_valid_state
  d_validate_state : DefIn K mg "validate_state" "validate_state" s_validate_state
  d_format_network : DefIn K mg "format_network" "format_network" s_format_network
  d_format_state : DefIn K mg "format_state" "format_state" s_format_state
  d_consists_of : DefIn K mg "consists_of" "consists_of" s_consists_of
  d_parse_number : DefIn K mg "parse_number" "parse_number" s_parse_number
  d_parse_place : DefIn K mg "parse_place" "parse_place" s_parse_place
  d_parse_network : DefIn K mg "parse_network" "parse_network" s_parse_network
  d_parse_numbers : DefIn K mg "parse_numbers" "parse_numbers" s_parse_numbers
  d_parse_state : DefIn K mg "parse_state" "parse_state" s_parse_state
  d_law_start : DefIn K mg "_law_start" "_law_start" s_law_start
  d_law_drawn : DefIn K mg "_law_drawn" "_law_drawn" s_law_drawn
  d_law_same : DefIn K mg "_law_same" "_law_same" s_law_same
  d_law_attributes : DefIn K mg "_law_attributes" "_law_attributes" s_law_attributes
  d_law_outcome : DefIn K mg "_law_outcome" "_law_outcome" s_law_outcome
  d_law_network : DefIn K mg "_law_network" "_law_network" s_law_network
  d_law_random_state : DefIn K mg "_law_random_state" "_law_random_state" s_law_random_state
  d_law_integer : DefIn K mg "_law_integer" "_law_integer" s_law_integer
  d_law_place : DefIn K mg "_law_place" "_law_place" s_law_place
  d_law_invalid : DefIn K mg "_law_invalid" "_law_invalid" s_law_invalid
  d_law_network_of : DefIn K mg "_law_network_of" "_law_network_of" s_law_network_of
  d_law_state_of : DefIn K mg "_law_state_of" "_law_state_of" s_law_state_of
  d_law_changed : DefIn K mg "_law_changed" "_law_changed" s_law_changed
  d_law : DefIn K mg "law" "law" s_law
  b_isinstance : mg "isinstance" = none
  b_str : mg "str" = none
  b_len : mg "len" = none
  b_all : mg "all" = none
  b_enumerate : mg "enumerate" = none
  b_range : mg "range" = none
  b_zip : mg "zip" = none
  b_list : mg "list" = none
  b_set : mg "set" = none
  b_int : mg "int" = none
  b_tuple : mg "tuple" = none
  b_bool : mg "bool" = none
  b_ValueError : mg "ValueError" = none
  b_min : mg "min" = none
  b_max : mg "max" = none
  c_LETTERS : ∃ t, mg "LETTERS" = some (.str "abcdefghijklmnopqrstuvwxyz" t)
  c_MAX_LETTERS : ∃ t, mg "MAX_LETTERS" = some (.int 8 t)
  c_MAX_STATIONS : ∃ t, mg "MAX_STATIONS" = some (.int 40 t)
  c_MAX_SEATS : ∃ t, mg "MAX_SEATS" = some (.int 8 t)
  c_DIGITS : ∃ t, mg "DIGITS" = some (.str "0123456789" t)
  c_MAX_STATION_DIGITS : ∃ t, mg "MAX_STATION_DIGITS" = some (.int 2 t)
  c_NEXT : ∃ t, mg "NEXT" = some (.str "next" t)
  c_QUEUE : ∃ t, mg "QUEUE" = some (.str "queue" t)
end Fb
namespace Fb
open PySem PySem.Spec PyProof.Rows L2
def isP : Key → Bool
  | .inl _ => false
  | .inr _ => true
def spPort : Sp := fun vs H Q _ => ∃ k : Key, vs = [kV k] ∧ Q (.bl (isP k)) H
section
variable {P : Program} {w : World} {K : PySem.W.Frag} {mg : Str → Option Value} {base : Heap}
theorem ok_is_port (A : All K mg) : Cal P w K mg base 1 "is_port" spPort := by
  refine cal_of A.d_is_port sc_is_port (fun _ _ _ _ _ _ us hl => match us, hl with | [_], _ => rfl) (fun vs H Q E h => ?_) (fun f cdv A' outer s H vs Q E hr h => ?_)
  · obtain ⟨k, rfl, _⟩ := h
    rfl
  · obtain ⟨k, rfl, q⟩ := h
    refine ⟨_, (pss_one (ps_ret (pe_callB (id := "isinstance") (k_isi (K := K) rfl) (by rfl) A.b_isinstance (by decide +kernel) (pa_cons (pv 0) (pa_cons (pe_bltn (v := .ty "str") (u := .type "str") (by rfl) A.b_str (by decide +kernel) rfl) pa_nil))))), ?_⟩
    walk_at "begin"
    cases k with
    | inl i => exact i_isI (b := "str") (k := false) (by decide +kernel) q
    | inr x => exact i_isS (b := "str") (k := true) (by decide +kernel) q
end
end Fb

namespace Fb
open PySem PySem.Spec PyProof.Rows L2
/-! ### networks -/
def okPlace (n i : Nat) : Key → Prop
  | .inl p => (i : Int) < p ∧ p < n
  | .inr x => 1 ≤ x.length ∧ x.length ≤ 8 ∧ ∀ c ∈ x.cps.toList, 97 ≤ c ∧ c ≤ 122
structure NetOk (net : List (List Key)) : Prop where
  pos : 0 < net.length
  le : net.length ≤ 40
  size : ∀ (i : Nat) (seats : List Key), net[i]? = some seats → 1 ≤ seats.length ∧ seats.length ≤ 8
  plc : ∀ (i : Nat) (seats : List Key) (k : Key), net[i]? = some seats → k ∈ seats → okPlace net.length i k
/-! ### the flow through a network -/
def seatStep (d : Int) (j : List Int) : Key → List Int
  | .inl p => j.set p.toNat (j.getD p.toNat 0 + d)
  | .inr _ => j
theorem seatStep_len (d : Int) (j : List Int) (k : Key) : (seatStep d j k).length = j.length := by
  cases k <;> simp [seatStep]
theorem seats_len (d : Int) (ks : List Key) (j : List Int) : (ks.foldl (seatStep d) j).length = j.length := by
  induction ks generalizing j with
  | nil => rfl
  | cons k ks ih => rw [List.foldl_cons, ih, seatStep_len]
def flowN (net : List (List Key)) (lens : List Int) (a : Int) : Nat → List Int × List Int
  | 0 => (a :: List.replicate (net.length - 1) 0, [])
  | i + 1 =>
    let r := flowN net lens a i
    let seats := net.getD i []
    let d := (lens.getD i 0 + r.1.getD i 0) / (seats.length : Int)
    (seats.foldl (seatStep d) r.1, r.2 ++ [d])
def flow (net : List (List Key)) (lens : List Int) (a : Int) : List Int × List Int := flowN net lens a net.length
theorem flowN_len {net : List (List Key)} (h : 0 < net.length) (lens : List Int) (a : Int) (i : Nat) : (flowN net lens a i).1.length = net.length := by
  induction i with
  | zero => simp [flowN]; omega
  | succ i ih => simp only [flowN]; rw [seats_len, ih]
theorem flowN_len2 (net : List (List Key)) (lens : List Int) (a : Int) (i : Nat) : (flowN net lens a i).2.length = i := by
  induction i with
  | zero => rfl
  | succ i ih => simp only [flowN]; rw [List.length_append, ih]; rfl
def iV (ns : List Int) : List V := ns.map V.int
theorem iV_at {ns : List Int} {i : Nat} (h : i < ns.length) : atI (iV ns) (i : Int) = some (.int (ns.getD i 0)) := by
  refine atI_nat ?_
  unfold iV
  rw [List.getElem?_map, List.getD_eq_getElem?_getD, List.getElem?_eq_getElem h]
  rfl
theorem iV_len (ns : List Int) : (iV ns).length = ns.length := by simp [iV]
theorem getD_of {α : Type} {l : List α} {i : Nat} {x d : α} (h : l[i]? = some x) : l.getD i d = x := by
  rw [List.getD_eq_getElem?_getD, h]; rfl
def spFlow (K : PySem.W.Frag) : Sp := fun vs H Q _ => ∃ (n : V) (la : Addr) (net : List (List Key)) (lens : List Int) (a : Int), vs = [n, .ref la, .int a] ∧ Dt K H n (netD net) ∧ NetOk net ∧ SqL K H la (iV lens) ∧ lens.length = net.length ∧
  ∀ p j b H', Same H H' → H j = none → H b = none → j ≠ b → H' p = some (.tup [.ref j, .ref b]) → H' j = some (.lst (iV (flow net lens a).1)) → H' b = some (.lst (iV (flow net lens a).2)) → Q (.ref p) H'
section
variable {P : Program} {w : World} {K : PySem.W.Frag} {mg : Str → Option Value} {base : Heap}
end
end Fb

namespace Fb
open PySem PySem.Spec PyProof.Rows L2
def letterB (c : Nat) : Bool := decide (97 ≤ c) && decide (c ≤ 122)
def plcB (n i : Nat) : Key → Bool
  | .inl p => decide ((i : Int) < p) && decide (p < n)
  | .inr x => decide (1 ≤ x.length) && decide (x.length ≤ 8) && x.cps.toList.all letterB
theorem plcB_iff {n i : Nat} {k : Key} : plcB n i k = true ↔ okPlace n i k := by
  cases k with
  | inl p => simp [plcB, okPlace]
  | inr x => simp only [plcB, okPlace, Bool.and_eq_true, decide_eq_true_eq, List.all_eq_true, letterB, and_assoc]
theorem letters_eq : ("abcdefghijklmnopqrstuvwxyz" : Str).cps.toList = (List.range 26).map (· + 97) := by decide +kernel
theorem letters_mem (c : Nat) : decide (c ∈ ("abcdefghijklmnopqrstuvwxyz" : Str).cps.toList) = letterB c := by
  rw [letters_eq]
  have : (c ∈ (List.range 26).map (· + 97)) ↔ (97 ≤ c ∧ c ≤ 122) := by
    constructor
    · intro h
      obtain ⟨d, hd, rfl⟩ := List.mem_map.mp h
      have := List.mem_range.mp hd
      omega
    · intro h
      exact List.mem_map.mpr ⟨c - 97, List.mem_range.mpr (by omega), by omega⟩
  unfold letterB
  rw [Bool.eq_iff_iff]
  simp [this]
def keyZ : Key → Prop
  | .inl _ => True
  | .inr x => x.length ≤ 100000
def spVPlace (K : PySem.W.Frag) : Sp := fun vs H Q _ => ∃ (n : V) (net : List (List Key)) (i : Nat) (k : Key), vs = [n, .int i, kV k] ∧ Dt K H n (netD net) ∧ keyZ k ∧ ∀ H', Same H H' → Q (.bl (plcB net.length i k)) H'
/-- the first seat of a station that is not allowed: -1 for its number of seats -/
def firstBad (n i : Nat) (seats : List Key) : Option Int := if 1 ≤ seats.length ∧ seats.length ≤ 8 then (seats.findIdx? (fun k => !plcB n i k)).map (fun (j : Nat) => (j : Int)) else some (-1)
def oI : Option Int → V
  | some i => .int i
  | none => .non
def spFirstBad (K : PySem.W.Frag) : Sp := fun vs H Q _ => ∃ (n : V) (net : List (List Key)) (i : Nat) (seats : List Key), vs = [n, .int i] ∧ Dt K H n (netD net) ∧ net[i]? = some seats ∧ (∀ k ∈ seats, keyZ k) ∧ seats.length ≤ 100000 ∧ ∀ H', Same H H' → Q (oI (firstBad net.length i seats)) H'
theorem NetOk.bad {net : List (List Key)} (ok : NetOk net) {i : Nat} {seats : List Key} (h : net[i]? = some seats) : firstBad net.length i seats = none := by
  unfold firstBad
  rw [if_pos (ok.size i seats h)]
  have : seats.findIdx? (fun k => !plcB net.length i k) = none := by
    rw [List.findIdx?_eq_none_iff]
    intro k hk
    have := plcB_iff.mpr (ok.plc i seats k h hk)
    simp [this]
  rw [this]
  rfl
theorem NetOk.keyZ {net : List (List Key)} (ok : NetOk net) {i : Nat} {seats : List Key} (h : net[i]? = some seats) : ∀ k ∈ seats, keyZ k := fun k hk => by
  have := ok.plc i seats k h hk
  cases k with
  | inl _ => trivial
  | inr x => have := this.2.1; show x.length ≤ 100000; omega
/-- a station of a network, read -/
theorem net_at {K : PySem.W.Frag} {H : Hp} {net : List (List Key)} {xs : List V} (h : DtAll K H xs (net.map seatsD)) {i : Nat} {x : V} (e : xs[i]? = some x) : ∃ seats sa, net[i]? = some seats ∧ x = .ref sa ∧ TupAt K H sa (seats.map kV) := by
  obtain ⟨d, hd, hyd⟩ := h.get e
  rw [List.getElem?_map] at hd
  cases e : net[i]? with
  | none => rw [e] at hd; cases hd
  | some z =>
    rw [e] at hd
    cases hd
    obtain ⟨sa, ss, rfl, hsa, hss⟩ := hyd.tup_inv
    have ess := hss.keys
    subst ess
    exact ⟨z, sa, rfl, rfl, hsa⟩
theorem net_ix {K : PySem.W.Frag} {H : Hp} {net : List (List Key)} {xs : List V} (h : DtAll K H xs (net.map seatsD)) {i : Nat} {seats : List Key} (e : net[i]? = some seats) : ∃ sa, xs[i]? = some (.ref sa) ∧ TupAt K H sa (seats.map kV) := by
  obtain ⟨x, hx, hd⟩ := h.at (i := i) (d := seatsD seats) (by rw [List.getElem?_map, e]; rfl)
  obtain ⟨seats', sa, e', rfl, t⟩ := net_at h hx
  rw [e] at e'
  cases e'
  exact ⟨sa, hx, t⟩
section
variable {P : Program} {w : World} {K : PySem.W.Frag} {mg : Str → Option Value} {base : Heap}
theorem ok_is_valid_place (A : All K mg) (c_is_port : Cal P w K mg base 1 "is_port" spPort) : Cal P w K mg base 2 "is_valid_place" (spVPlace K) := by
  refine cal_of A.d_is_valid_place sc_is_valid_place (fun _ _ _ _ _ _ us hl => match us, hl with | [_, _, _], _ => rfl) (fun vs H Q E h => ?_) (fun f cdv A' outer s H0 vs Q E hr h => ?_)
  · obtain ⟨n, net, i, k, rfl, _⟩ := h
    rfl
  · obtain ⟨n, net, i, ky, rfl, hn, hz, k⟩ := h
    obtain ⟨na, xs, rfl, hna, hxs⟩ := hn.tup_inv
    have hxl : xs.length = net.length := by rw [hxs.len, List.length_map]
    obtain ⟨tM, h_MAX_LETTERS⟩ := A.c_MAX_LETTERS
    obtain ⟨tL, h_LETTERS⟩ := A.c_LETTERS
    refine ⟨_, (pss_cons (ps_if (pt_val (pc c_is_port hr (by decide) (pa_cons (pv 2) pa_nil))) (pss_one (ps_ret (pe_and (pe_chain op_le op_le pe_int (pe_callB (id := "len") (k_len (K := K) rfl) (by rfl) A.b_len (by decide +kernel) (pa_cons (pv 2) pa_nil)) (pe_glob (v := .int 8) rfl h_MAX_LETTERS ⟨_, rfl⟩)) (pe_one (pe_callB (id := "all") (k_all (K := K) rfl rfl) (by rfl) A.b_all (by decide +kernel) (pa_cons (pe_lc rfl sc_is_valid_place.nd (pi_str (pv 2)) (blkOk_by (own := [("letter", 3)]) (N := ["network", "station", "place", "letter"]) (sc := defScope s_is_valid_place) (by decide +kernel)) (fun _ _ _ _ _ => (pg_name (i := 3) sc_is_valid_place.nd rfl (Or.inl rfl))) (fun _ _ _ _ _ => pts_nil) (fun _ _ _ _ _ => (pe_cmpR op_inC (pv 3) (pe_glob (v := .str "abcdefghijklmnopqrstuvwxyz") rfl h_LETTERS ⟨_, rfl⟩) (by rfl)))) pa_nil)))))) pss_nil)
 (pss_one (ps_ret (pe_chain op_lt op_lt (pv 1) (pv 2) (pe_callB (id := "len") (k_len (K := K) rfl) (by rfl) A.b_len (by decide +kernel) (pa_cons (pv 0) pa_nil)))))), ?_⟩
    have st : Stt [] H0 [] [] H0 := Stt.init H0
    walk_at "begin"
    refine ⟨ky, rfl, ?_⟩
    walk_at "go"
    cases ky with
    | inl p =>
      refine iteF ?_
      walk_at "go"
      refine ite2 (fun h1 => ?_) (fun h1 => ?_)
      · walk_at "go"
        refine i_lenT (xs := xs) (by walk_at "sq") ?_
        walk_at "go"
        have e : plcB net.length i (.inl p) = decide (p < (xs.length : Int)) := by
          simp only [plcB]
          rw [h1, hxl]
          rfl
        rw [← e]
        exact k _ st.same
      · have e : plcB net.length i (.inl p) = false := by
          simp only [plcB]
          simp at h1
          simp
          omega
        rw [← e]
        exact k _ st.same
    | inr x =>
      refine iteT ?_
      walk_at "go"
      refine i_lenS (sz_of hz) ?_
      walk_at "go"
      have g1 : decide ((1 : Int) ≤ (x.length : Int)) = decide (1 ≤ x.length) := by
        rw [Bool.eq_iff_iff]; simp; omega
      have g2 : decide ((x.length : Int) ≤ (8 : Int)) = decide (x.length ≤ 8) := by
        rw [Bool.eq_iff_iff]; simp; omega
      rw [g1]
      by_cases h1 : 1 ≤ x.length
      · rw [decide_eq_true h1]
        refine iteT ?_
        walk_at "go"
        rw [g2]
        by_cases h2 : x.length ≤ 8
        · rw [decide_eq_true h2]
          walk_at "go"
          refine iteT ?_
          walk_at "go"
          refine ⟨x, rfl, LcIt.map walk_str (x.cps.toList.map fun c => V.bl (letterB c)) (by simp) (sz_lt (by have : x.cps.size = x.length := rfl; omega)) (fun _ _ => trivial) ?_ ?_⟩
          · rintro m v y H1 H' N hm hy e1 ⟨rfl, c, hc, rfl⟩ q
            walk_at "go"
            refine ⟨rfl, ?_⟩
            walk_at "go"
            rw [List.getElem?_map, Array.getElem?_toList, hc] at hy
            obtain rfl : V.bl (letterB c) = y := Option.some.inj hy
            rw [letters_mem]
            exact q _ (Same.refl _)
          · intro D H' hD e1 e2
            walk_at "go"
            refine i_all (bs := x.cps.toList.map letterB) (SqL.of (by rw [e2, List.map_map]; rfl)) ?_
            have e : plcB net.length i (.inr x) = (x.cps.toList.map letterB).all id := by
              simp only [plcB]
              rw [decide_eq_true h1, decide_eq_true h2, List.all_map]
              rfl
            rw [← e]
            exact k _ e1
        · rw [decide_eq_false h2]
          walk_at "go"
          refine iteF ?_
          have e : plcB net.length i (.inr x) = false := by
            simp only [plcB]
            rw [decide_eq_false h2]
            simp
          rw [← e]
          exact k _ st.same
      · rw [decide_eq_false h1]
        refine iteF ?_
        walk_at "go"
        refine iteF ?_
        have e : plcB net.length i (.inr x) = false := by
          simp only [plcB]
          rw [decide_eq_false h1]
          simp
        rw [← e]
        exact k _ st.same
theorem ok_first_invalid_seat (A : All K mg) (c_is_valid_place : Cal P w K mg base 2 "is_valid_place" (spVPlace K)) : Cal P w K mg base 3 "first_invalid_seat" (spFirstBad K) := by
  refine cal_of A.d_first_invalid_seat sc_first_invalid_seat (fun _ _ _ _ _ _ us hl => match us, hl with | [_, _], _ => rfl) (fun vs H Q E h => ?_) (fun f cdv A' outer s H0 vs Q E hr h => ?_)
  · obtain ⟨n, net, i, k, rfl, _⟩ := h
    rfl
  · obtain ⟨n, net, i, seats, rfl, hn, hse, hz, hzl, k⟩ := h
    obtain ⟨na, xs, rfl, hna, hxs⟩ := id hn.tup_inv
    obtain ⟨sa, hsx, hsa⟩ := net_ix hxs hse
    obtain ⟨tM, h_MAX_SEATS⟩ := A.c_MAX_SEATS
    refine ⟨_, (pss_cons (ps_set (i := 2) sc_first_invalid_seat.nd rfl (Or.inl rfl) (pe_ix (k_ixT (K := K) rfl) (pv 0) (pv 1) (fun _ _ => rfl)))
 (pss_cons (ps_if (pt_not (pt_chain op_le op_le pe_int (pe_callB (id := "len") (k_len (K := K) rfl) (by rfl) A.b_len (by decide +kernel) (pa_cons (pv 2) pa_nil)) (pe_glob (v := .int 8) rfl h_MAX_SEATS ⟨_, rfl⟩))) (pss_one (ps_ret (pe_un un_neg pe_int))) pss_nil)
 (pss_cons (ps_for PassesOwn.never rfl (k_enum (K := K) rfl (by rfl) A.b_enumerate (pa_cons (pv 2) pa_nil)) (k_tg (K := K) (n := 2) rfl rfl (pgs_cons (pg_name (i := 3) sc_first_invalid_seat.nd rfl (Or.inl rfl)) (pgs_cons (pg_name (i := 4) sc_first_invalid_seat.nd rfl (Or.inl rfl)) pgs_nil)))
 (pss_one (ps_if (pt_not (pt_val (pc c_is_valid_place hr (by decide) (pa_cons (pv 0) (pa_cons (pv 1) (pa_cons (pv 4) pa_nil)))))) (pss_one (ps_ret (pv 3))) pss_nil)))
 (pss_one (ps_ret pe_non))))), ?_⟩
    have st : Stt [] H0 [] [] H0 := Stt.init H0
    walk_at "begin"
    refine i_ixT (xs := xs) (by walk_at "sq") (atI_nat hsx) ?_
    walk_at "go"
    refine i_lenT (xs := seats.map kV) (by walk_at "sq") ?_
    walk_at "go"
    rw [List.length_map]
    have g1 : decide ((1 : Int) ≤ (seats.length : Int)) = decide (1 ≤ seats.length) := by
      rw [Bool.eq_iff_iff]; simp; omega
    have g2 : decide ((seats.length : Int) ≤ (8 : Int)) = decide (seats.length ≤ 8) := by
      rw [Bool.eq_iff_iff]; simp; omega
    rw [g1]
    have bad : ¬ (1 ≤ seats.length ∧ seats.length ≤ 8) → Q (.int (-1)) H0 := fun h => by
      have := k H0 st.same
      unfold firstBad at this
      rw [if_neg h] at this
      exact this
    by_cases h1 : 1 ≤ seats.length
    · rw [decide_eq_true h1]
      refine iteT ?_
      walk_at "go"
      rw [g2]
      by_cases h2 : seats.length ≤ 8
      · rw [decide_eq_true h2]
        refine iteF ?_
        walk_at "go"
        refine ⟨false, sa, seats.map kV, rfl, sqBT (by walk_at "sq"), ForIt.go (walk_enumB (xs := seats.map kV)) (fun m σ H => ∃ s3 s4, σ = [some (.ref na), some (.int i), some (.ref sa), s3, s4] ∧ Stt [] H0 [] [] H ∧ ∀ j ky, j < m → seats[j]? = some ky → plcB net.length i ky = true) ⟨_, _, rfl, st, fun _ _ h => absurd h (Nat.not_lt_zero _)⟩ (fun m σ H _ p => ?_) ?_ ?_⟩
        · obtain ⟨_, _, _, st, _⟩ := p
          exact sqBT (by walk_at "sq")
        · rintro m v σ H H' hm ⟨s3, s4, rfl, st, hall⟩ ⟨T, x, y, rfl, hT, rfl, hx, hy⟩
          have st := st.newT K hT (xs := [x, y])
          rw [List.length_map] at hm
          obtain rfl : x = V.int m := (Option.some.inj hx).symm
          obtain ⟨ky, hky, rfl⟩ : ∃ ky, seats[m]? = some ky ∧ kV ky = y := by
            dsimp only at hy
            rw [List.getElem?_map, List.getElem?_eq_getElem hm] at hy
            exact ⟨_, List.getElem?_eq_getElem hm, Option.some.inj hy⟩
          walk_at "go"
          refine i_gtup (xs := [.int m, kV ky]) (by walk_at "sq") rfl ?_
          walk_at "go"
          refine ⟨_, net, i, ky, rfl, Dt.keep st.tk _ _ hn, hz ky (List.mem_of_getElem? hky), fun H' e' => ?_⟩
          have st := (st.ext e').only (P' := []) [] rfl
          walk_at "go"
          cases hb : plcB net.length i ky with
          | true =>
            refine iteF ?_
            walk_at "go"
            refine ⟨_, _, rfl, st, fun j ky' hj hjk => ?_⟩
            by_cases e : j = m
            · subst e
              rw [hky] at hjk
              cases hjk
              exact hb
            · exact hall j ky' (by omega) hjk
          | false =>
            refine iteT ?_
            walk_at "go"
            have := k _ st.same
            unfold firstBad at this
            rw [if_pos ⟨h1, h2⟩] at this
            have e : seats.findIdx? (fun k => !plcB net.length i k) = some m := by
              rw [List.findIdx?_eq_some_iff_getElem]
              refine ⟨hm, ?_, fun j hj => ?_⟩
              · have : seats[m] = ky := by
                  rw [List.getElem?_eq_getElem hm] at hky
                  exact Option.some.inj hky
                rw [this, hb]
                rfl
              · have := hall j _ hj (List.getElem?_eq_getElem (by omega))
                simp [this]
            rw [e] at this
            exact this
        · rintro σ H ⟨s3, s4, rfl, st, hall⟩
          walk_at "go"
          rw [List.length_map] at hall
          have := k _ st.same
          unfold firstBad at this
          rw [if_pos ⟨h1, h2⟩] at this
          have e : seats.findIdx? (fun k => !plcB net.length i k) = none := by
            rw [List.findIdx?_eq_none_iff]
            intro ky hk
            obtain ⟨j, hj⟩ := List.getElem?_of_mem hk
            simp [hall j ky (List.getElem?_eq_some_iff.mp hj).1 hj]
          rw [e] at this
          exact this
      · rw [decide_eq_false h2]
        refine iteT ?_
        walk_at "go"
        exact bad (fun h => h2 h.2)
    · rw [decide_eq_false h1]
      refine iteF ?_
      walk_at "go"
      refine iteT ?_
      walk_at "go"
      exact bad (fun h => h1 h.1)
end
end Fb

namespace Fb
open PySem PySem.Spec PyProof.Rows L2
/-! ### InvalidNetwork(station = .., seat = ..) -/
/-- what FerryError.__init__ is -/
structure FeB (K : PySem.W.Frag) (mg : Str → Option Value) (D : Addr) : Prop where
  mg : mg "FerryError" = some (.ref D)
  sp : PySem.W.specialIn K (.ref D) "__getattribute__" = some (some (.builtin "type.__getattribute__"))
  rd : PySem.W.readsIn K D (.type "type") = true
  fc : PySem.W.findCls K (.ref D) (.type "type") "__init__" = some (.val (.builtin "ValueError.__init__"))
def spINet (C : Addr) : Sp := fun vs H Q _ => ∃ (a : Addr) (x y : V), vs = [.ref a, x, y] ∧ H a = some (exo a C none) ∧ ∀ d, H d = none → d ≠ a → Q .non (upd (upd (upd H d (exd d [("station", x)])) a (exo a C (some d))) d (exd d [("seat", y), ("station", x)]))
theorem sc_inet : FnScope ["self", "station", "seat"] ["self", "station", "seat"] (defScope s_InvalidNetwork___init) := ⟨rfl, rfl, rfl, by decide +kernel, rfl, by decide +kernel, by decide +kernel⟩
section
variable {P : Program} {w : World} {K : PySem.W.Frag} {mg : Str → Option Value} {base : Heap}
theorem ok_inet_init {C D f : Addr} {fd : FuncData} (F : Fun K "__init__" "InvalidNetwork.__init__" s_InvalidNetwork___init f fd) (O : OexI K C f ["station", "seat"]) (B : FeB K mg D) : FnOk P w K mg base (L2.CX P w) 1 f fd ["self", "station", "seat"] (spINet C) := by
  refine F.okX sc_inet (fun vs H Q E h => ?_) (fun cdv A' outer s H0 vs Q E hr h => ?_)
  · obtain ⟨a, x, y, rfl, _⟩ := h
    rfl
  · obtain ⟨a, x, y, rfl, ha, k⟩ := h
    have key : ∃ t, PSs (cxOf (L2.CX P w) P w K mg base ["self", "station", "seat"] "InvalidNetwork.__init__" (defScope s_InvalidNetwork___init) f cdv A' outer s H0 E).nox (defBody s_InvalidNetwork___init) t ∧ t { nx := fun _ H' => Q .non H', rt := Q } (start ["self", "station", "seat"] [.ref a, x, y]) H0 := by
      refine ⟨_, (pss_cons (ps_expr (pe_feinit (D := D) rfl B.mg B.sp B.rd B.fc (pa_cons (pv 0) (pa_cons pe_str pa_nil)))) (pss_cons (ps_ost (pv 0) (pv 1)) (pss_one (ps_ost (pv 0) (pv 2))))), ?_⟩
      walk_at "begin"
      unfold tVeI
      walk_at "go"
      refine ⟨a, C, [.str "invalid network"], rfl, by decide, O.oex, ha, ?_⟩
      walk_at "go"
      unfold tOst
      walk_at "go"
      refine ⟨a, C, rfl, O.oex, O.no _ (by simp), .inl ⟨ha, fun d nd na => ?_⟩⟩
      walk_at "go"
      refine ⟨a, C, rfl, O.oex, O.no _ (by simp), .inr ⟨d, [("station", x)], upd_same, ?_, by simp, ?_⟩⟩
      · rw [upd_ne na]
        exact upd_same
      · walk_at "go"
        exact k d nd na
    obtain ⟨t, p, q⟩ := key
    exact ⟨t, p.nox, q⟩
end
end Fb

namespace Fb
open PySem PySem.Spec PyProof.Rows L2
/-! ### validate_network, of any network of keys -/
theorem inet_sp {C : Addr} {x y : V} {H1 : Hp} {Q : XK} (h : ∀ d, H1 d = none → Q (.ref C) (some d) (upd H1 d (.xd [("seat", y), ("station", x)]))) : [x, y].length = 2 ∧ ∀ a, H1 a = none → spINet C ([.ref a] ++ [x, y]) (upd H1 a (exo a C none))
    (fun v H2 => v = .non ∧ ∃ (d : Addr) (fs : List (Str × V)), H2 a = some (exo a C (some d)) ∧ H2 d = some (exd d fs) ∧ H1 d = none ∧ Q (.ref C) (some d) (upd (del H2 a) d (.xd fs))) (fun _ _ _ => False) := by
  refine ⟨rfl, fun a na => ⟨a, x, y, rfl, upd_same, fun d nd nda => ⟨rfl, d, _, ?_, upd_same, ?_, ?_⟩⟩⟩
  · rw [upd_ne (Ne.symm nda), upd_same]
  · rw [upd_ne nda] at nd
    exact nd
  · have nd1 : H1 d = none := by
      rw [upd_ne nda] at nd
      exact nd
    have e : upd (del (upd (upd (upd (upd H1 a (exo a C none)) d (exd d [("station", x)])) a (exo a C (some d))) d (exd d [("seat", y), ("station", x)])) a) d (.xd [("seat", y), ("station", x)]) = upd H1 d (.xd [("seat", y), ("station", x)]) := by
      funext b
      by_cases e1 : b = d
      · rw [e1, upd_same, upd_same]
      · rw [upd_ne e1, upd_ne e1]
        by_cases e2 : b = a
        · rw [e2, del_same, na]
        · rw [del_ne e2, upd_ne e1, upd_ne e2, upd_ne e1, upd_ne e2]
    rw [e]
    exact h d nd1
def badF (net : List (List Key)) (i : Nat) : Option (Int × Int) := (if i = 40 then some (-1) else firstBad net.length i (net.getD i [])).map fun s => ((i : Int), s)
def badNet (net : List (List Key)) : Option (Int × Int) := if net = [] then some (0, -1) else (List.range net.length).findSome? (badF net)
theorem findSome_none {α : Type} {f : Nat → Option α} : ∀ n, (∀ j, j < n → f j = none) → (List.range n).findSome? f = none := fun n h => by
  rw [List.findSome?_eq_none_iff]
  exact fun j hj => h j (List.mem_range.mp hj)
theorem findSome_at {α : Type} {f : Nat → Option α} {n i : Nat} {v : α} (hi : i < n) (h : ∀ j, j < i → f j = none) (e : f i = some v) : (List.range n).findSome? f = some v := by
  have e1 : List.range n = List.range i ++ (i :: (List.range (n - i - 1)).map (· + (i + 1))) := by
    refine List.ext_getElem? fun k => ?_
    by_cases hk : k < i
    · rw [List.getElem?_append_left (by simpa using hk), List.getElem?_range (by omega), List.getElem?_range hk]
    · rw [List.getElem?_append_right (by simpa using hk), List.length_range]
      by_cases hk2 : k = i
      · subst hk2
        rw [Nat.sub_self, List.getElem?_range hi]
        rfl
      · obtain ⟨q, rfl⟩ : ∃ q, k = i + 1 + q := ⟨k - i - 1, by omega⟩
        rw [show i + 1 + q - i = q + 1 by omega, List.getElem?_cons_succ, List.getElem?_map]
        by_cases hq : i + 1 + q < n
        · rw [List.getElem?_range hq, List.getElem?_range (by omega)]
          simp
          omega
        · rw [List.getElem?_eq_none (by simpa using hq), List.getElem?_eq_none (by simp; omega)]
          rfl
  rw [e1, List.findSome?_append, findSome_none i h, List.findSome?_cons, e]
  rfl
structure InetK (K : PySem.W.Frag) (mg : Str → Option Value) (C : Addr) : Prop where
  mgC : mg "InvalidNetwork" = some (.ref C)
  ex : ∃ f D fd, Fun K "__init__" "InvalidNetwork.__init__" s_InvalidNetwork___init f fd ∧ OexI K C f ["station", "seat"] ∧ FeB K mg D
def spVNetX (K : PySem.W.Frag) (C : Addr) : Sp := fun vs H Q E => ∃ (n : V) (net : List (List Key)), vs = [n] ∧ Dt K H n (netD net) ∧ (∀ (i : Nat) (seats : List Key), net[i]? = some seats → (∀ k ∈ seats, keyZ k) ∧ seats.length ≤ 100000) ∧ net.length ≤ 1000 ∧
  (badNet net = none → ∀ H', Same H H' → Q .non H') ∧ ∀ st se, badNet net = some (st, se) → ∀ d H1, Same H H1 → H1 d = none → E (.ref C) (some d) (upd H1 d (.xd [("seat", .int se), ("station", .int st)]))
section
variable {X : Cx} {C : Addr} {W : WX} {tk : TA} {kws : List Keyword} {p pos pos' : Pos}
/-- raise InvalidNetwork(station = .., seat = ..) -/
theorem ps_inet (B : InetK X.K X.mg C) (hr : Room 2 X.A) (hc : X.calm = true) (tks : Takes X W) (hg : Gl X "InvalidNetwork") (hkw : PK X kws tk)
    (hall : (backToKw pos (keywordEach kws X.env)).all (·.1.isSome) = true := by rfl) (hks : (backToKw pos (keywordEach kws X.env)).filterMap (·.1) = (["station", "seat"] : List Str) := by rfl)
    (hpl : ((backTo pos (starEach [] X.env)).any (·.1) || (backToKw pos (keywordEach kws X.env)).any (·.1.isNone)) = false := by rfl) :
    PS X (.Raise (some (.Call (.Name "InvalidNetwork" p) [] kws pos)) none pos') (fun _ σ H => tMkOK C (spINet C) (fun vs zs => vs ++ zs) 2 tk σ H fun cls d H' => W cls d σ H') := by
  obtain ⟨f, D, fd, F, O, FB⟩ := B.ex
  have hb : KBn X.K fd ["self", "station", "seat"] 1 ["station", "seat"] (fun us ws => us ++ ws) (fun vs zs => vs ++ zs) := kbn_req F (fun us ws => us ++ ws) (fun r1 r2 => Vals.append r1 r2) (fun kV doc pm an cdv ct us ws l1 l2 => by
    match us, ws, l1, l2 with
    | [u], [w1, w2], _, _ => rfl)
  exact ps_raise hc tks (pmk_oexK O.oex O.ini O.fn (ok_inet_init F O FB) hr hb passL hg B.mgC hkw hall hks (by decide) hpl)
end
section
variable {P : Program} {w : World} {K : PySem.W.Frag} {mg : Str → Option Value} {base : Heap}
theorem ok_validate_network_x (A : All K mg) {C : Addr} (B : InetK K mg C) (c_first_invalid_seat : Cal P w K mg base 3 "first_invalid_seat" (spFirstBad K)) : Cal P w K mg base 4 "validate_network" (spVNetX K C) := by
  refine cal_ofX A.d_validate_network sc_validate_network (fun _ _ _ _ _ _ us hl => match us, hl with | [_], _ => rfl) (fun vs H Q E h => ?_) (fun f cdv A' outer s H0 vs Q E hr h => ?_)
  · obtain ⟨n, net, rfl, _⟩ := h
    rfl
  · obtain ⟨n, net, rfl, hn, hz, hl, k1, k2⟩ := h
    obtain ⟨na, xs, rfl, hna, hxs⟩ := id hn.tup_inv
    have hxl : xs.length = net.length := by rw [hxs.len, List.length_map]
    obtain ⟨tM, h_MAX_STATIONS⟩ := A.c_MAX_STATIONS
    refine ⟨_, (pss_cons (ps_if (pt_cmpR op_eq (pe_callB (id := "len") (k_len (K := K) rfl) (by rfl) A.b_len (by decide +kernel) (pa_cons (pv 0) pa_nil)) pe_int (nomark _)) (pss_one (ps_inet B (hr.mono (by decide)) rfl (takes_of rfl rfl rfl rfl) rfl (pk_cons pe_int (pk_cons (pe_un un_neg pe_int) pk_nil)))) pss_nil)
 (pss_one (ps_for (passes_of rfl) rfl (pi_range1 (by rfl) A.b_range (pa_cons (pe_callB (id := "len") (k_len (K := K) rfl) (by rfl) A.b_len (by decide +kernel) (pa_cons (pv 0) pa_nil)) pa_nil)) (pg_name (i := 1) sc_validate_network.nd rfl (Or.inl rfl))
 (pss_cons (ps_set (i := 2) sc_validate_network.nd rfl (Or.inl rfl) (pe_ifExp (pt_cmpR op_eq (pv 1) (pe_glob (v := .int 40) rfl h_MAX_STATIONS ⟨_, rfl⟩) (nomark _)) (pe_un un_neg pe_int) (pc c_first_invalid_seat hr (by decide) (pa_cons (pv 0) (pa_cons (pv 1) pa_nil)))))
 (pss_one (ps_if (pt_cmpR op_notN (pv 2) pe_non (nomark _)) (pss_one (ps_inet B (hr.mono (by decide)) rfl (takes_of rfl rfl rfl rfl) rfl (pk_cons (pv 1) (pk_cons (pv 2) pk_nil)))) pss_nil)))))), ?_⟩
    have st : Stt [] H0 [] [] H0 := Stt.init H0
    walk_at "begin"
    refine i_lenT (xs := xs) (by walk_at "sq") ?_
    walk_at "go"
    by_cases h0 : net = []
    · have : (xs.length : Int) = 0 := by rw [hxl, h0]; rfl
      rw [decide_eq_true this]
      refine iteT ?_
      unfold tMkOK
      walk_at "go"
      refine inet_sp fun d nd => ?_
      exact k2 0 (-1) (by unfold badNet; rw [if_pos h0]) d H0 (Same.refl _) nd
    · have hpos : 0 < net.length := List.length_pos_iff.mpr h0
      rw [decide_eq_false (by omega)]
      refine iteF ?_
      walk_at "go"
      refine i_lenT (xs := xs) (by walk_at "sq") ?_
      walk_at "go"
      have eB : badNet net = (List.range net.length).findSome? (badF net) := by unfold badNet; rw [if_neg h0]
      refine ⟨_, rfl, by omega, by omega, ForIt.go walk_range (fun i σ H => ∃ s1 s2, σ = [some (.ref na), s1, s2] ∧ (∀ j, j < i → badF net j = none) ∧ Stt [] H0 [] [] H) ⟨_, _, rfl, fun j hj => absurd hj (Nat.not_lt_zero _), st⟩ (fun _ _ _ _ _ => trivial) ?_ ?_⟩
      · rintro i x σ H H' hi ⟨s1, s2, rfl, hb, st⟩ ⟨rfl, rfl⟩
        have hi' : i < net.length := by omega
        have next : badF net i = none → ∀ j, j < i + 1 → badF net j = none := fun e j hj => by
          by_cases ej : j = i
          · rw [ej]; exact e
          · exact hb j (by omega)
        walk_at "go"
        rw [Int.zero_add]
        by_cases h40 : i = 40
        · rw [decide_eq_true (by omega)]
          refine iteT ?_
          walk_at "go"
          refine ⟨rfl, ?_⟩
          walk_at "go"
          refine iteT ?_
          unfold tMkOK
          walk_at "go"
          refine inet_sp fun d nd => ?_
          exact k2 i (-1) (by rw [eB]; exact findSome_at hi' hb (by unfold badF; rw [if_pos h40]; rfl)) d _ st.same nd
        · rw [decide_eq_false (by omega)]
          refine iteF ?_
          walk_at "go"
          have hs : net[i]? = some net[i] := by simp
          have eD : net.getD i [] = net[i] := getD_of hs
          refine ⟨_, net, i, _, rfl, Dt.keep st.tk _ _ hn, hs, (hz i _ hs).1, (hz i _ hs).2, fun H' e' => ?_⟩
          have st := st.ext e'
          cases hfb : firstBad net.length i net[i] with
          | none =>
            walk_at "go"
            refine ⟨rfl, ?_⟩
            walk_at "go"
            refine iteF ?_
            walk_at "go"
            exact ⟨_, _, rfl, next (by unfold badF; rw [if_neg h40, eD, hfb]; rfl), st⟩
          | some v =>
            walk_at "go"
            refine ⟨rfl, ?_⟩
            walk_at "go"
            refine iteT ?_
            unfold tMkOK
            walk_at "go"
            refine inet_sp fun d nd => ?_
            exact k2 i v (by rw [eB]; exact findSome_at hi' hb (by unfold badF; rw [if_neg h40, eD, hfb]; rfl)) d _ st.same nd
      · rintro σ H ⟨s1, s2, rfl, hb, st⟩
        walk_at "go"
        exact k1 (by rw [eB]; exact findSome_none _ fun j hj => hb j (by omega)) _ st.same
end
end Fb

namespace Fb
open PySem PySem.Spec PyProof.Rows L2 PySem.HandSPX
/-! ### own exceptions without an __init__; calls that pass exceptions on -/
structure OwnC (K : PySem.W.Frag) (C : Addr) : Prop where
  kp : PySem.W.keepIn K (.ref C) = true
  ex : PySem.W.excIn K C veTail "ValueError.__new__" = true
  sub : PySem.W.subIn K (.ref C) (.type "BaseException") = some true
  ty : PySem.W.typeIn K (.ref C) = some (.type "type")
section
variable {X : Cx} {C : Addr} {W : WX} {x m : Str} {j0 : Nat} {p p2 pos pos' : Pos}
theorem ps_own (O : OwnC X.K C) (mgC : X.mg x = some (.ref C)) (hc : X.calm = true) (tk : Takes X W) (hg : Gl X x) (hdb : (x == ("__debug__" : Str)) = false := by decide) :
    PS X (.Raise (some (.Call (.Name x p) [.Constant (.str m) j0 p2] [] pos)) none pos') (fun _ σ H => W (.ref C) none σ H) :=
  ps_raise hc tk (pmk_own fVE O.ex mgC O.kp (raises_own O.sub O.ty) hg hdb)
end
section
variable {X : Cx} {k j : Nat} {x : Str} {sp : Sp} {p pos : Pos} {e : Expr} {es : List Expr} {t : TA} {E : XK}
/-- a call that passes on what it raises -/
theorem pcX (c : Cal X.prog X.w X.K X.mg X.base k x sp) (hr : Room j X.A) (hk : k ≤ j) (tk : Takes X (fun cls d _ H => E cls d H)) (ha : PA X (e :: es) t) (hg : Gl X x := by rfl)
    (hdb : (x == ("__debug__" : Str)) = false := by decide) (he : starEach (e :: es) X.env = (false, eval e X.env) :: starEach es X.env := by rfl) (hpl : (backTo pos (starEach es X.env)).any (·.1) = false := by rfl) :
    PE X (.Call (.Name x p) (e :: es) [] pos) (tCall sp [] E t) := by
  obtain ⟨f, fd, ps, F, hm, kp, b⟩ := c.ex
  exact pe_call F (hr.mono hk) hg hm kp b .nil (passes_call tk fun _ _ _ _ h => h) ha hdb he hpl
end
def spVStationX (K : PySem.W.Frag) (C : Addr) : Sp := fun vs H Q E => ∃ (nv : V) (net : List (List Key)) (s : Int), vs = [nv, .int s] ∧ Dt K H nv (netD net) ∧ (0 ≤ s ∧ s < net.length → Q .non H) ∧ (¬ (0 ≤ s ∧ s < net.length) → E (.ref C) none H)
section
variable {P : Program} {w : World} {K : PySem.W.Frag} {mg : Str → Option Value} {base : Heap}
end
end Fb

namespace Fb
open PySem PySem.Spec PyProof.Rows L2 PySem.HandSPX
/-! ### validate_count, validate_state with their exceptions -/
def spVCountX (C : Addr) : Sp := fun vs H Q E => ∃ (c lo hi : Int), vs = [.int c, .int lo, .int hi] ∧ (lo ≤ c ∧ c ≤ hi → Q .non H) ∧ (¬ (lo ≤ c ∧ c ≤ hi) → E (.ref C) none H)
section
variable {P : Program} {w : World} {K : PySem.W.Frag} {mg : Str → Option Value} {base : Heap}
end
end Fb

namespace Fb
open PySem PySem.Spec PyProof.Rows L2
structure StOk (net : List (List Key)) (n : Int) (qs : List (List Int)) : Prop where
  one : 1 ≤ n
  len : qs.length = net.length
  short : ∀ (i : Nat) (q : List Int) (seats : List Key), qs[i]? = some q → net[i]? = some seats → q.length < seats.length
  nodup : qs.flatten.Nodup
  rng : ∀ p ∈ qs.flatten, 1 ≤ p ∧ p < n
theorem flatten_le {qs : List (List Int)} (h : ∀ q ∈ qs, q.length ≤ 8) : qs.flatten.length ≤ 8 * qs.length := by
  induction qs with
  | nil => simp
  | cons q qs ih =>
    rw [List.flatten_cons, List.length_append, List.length_cons]
    have h1 := h q (by simp)
    have h2 := ih fun q hq => h q (by simp [hq])
    omega
theorem StOk.qlen {net : List (List Key)} {n : Int} {qs : List (List Int)} (ok : NetOk net) (so : StOk net n qs) : ∀ q ∈ qs, q.length ≤ 8 := fun q hq => by
  obtain ⟨i, hi⟩ := List.getElem?_of_mem hq
  have hl : i < qs.length := (List.getElem?_eq_some_iff.mp hi).1
  have hs : net[i]? = some (net[i]'(by rw [← so.len]; exact hl)) := by simp
  have h1 := so.short i q _ hi hs
  have h2 := ok.size i _ hs
  omega
theorem StOk.wlen {net : List (List Key)} {n : Int} {qs : List (List Int)} (ok : NetOk net) (so : StOk net n qs) : qs.flatten.length ≤ 320 := by
  have h1 := flatten_le (so.qlen ok)
  have h2 := so.len
  have h3 := ok.le
  omega
theorem flatten_take (qs : List (List Int)) (i : Nat) {q : List Int} (h : qs[i]? = some q) : (qs.take (i + 1)).flatten = (qs.take i).flatten ++ q := by
  rw [List.take_succ, h]
  simp
def spVNet (K : PySem.W.Frag) : Sp := fun vs H Q _ => ∃ (n : V) (net : List (List Key)), vs = [n] ∧ Dt K H n (netD net) ∧ NetOk net ∧ ∀ H', Same H H' → Q .non H'
def spVCount : Sp := fun vs H Q _ => ∃ (c a b : Int), vs = [.int c, .int a, .int b] ∧ a ≤ c ∧ c ≤ b ∧ Q .non H
def spIsState (K : PySem.W.Frag) : Sp := fun vs H Q _ => ∃ (nv sv : V) (net : List (List Key)) (n : Int) (qs : List (List Int)), vs = [nv, sv] ∧ Dt K H nv (netD net) ∧ Dt K H sv (stD n qs) ∧ NetOk net ∧ StOk net n qs ∧ ∀ H', Same H H' → Q (.bl true) H'
def spVState (K : PySem.W.Frag) : Sp := fun vs H Q _ => ∃ (nv sv : V) (net : List (List Key)) (n : Int) (qs : List (List Int)), vs = [nv, sv] ∧ Dt K H nv (netD net) ∧ Dt K H sv (stD n qs) ∧ NetOk net ∧ StOk net n qs ∧ ∀ H', Same H H' → Q .non H'
def spQLens (K : PySem.W.Frag) : Sp := fun vs H Q _ => ∃ (sv : V) (n : Int) (qs : List (List Int)), vs = [sv] ∧ Dt K H sv (stD n qs) ∧ qs.length ≤ 1000 ∧ ∀ p H', H p = none → Same H H' → H' p = some (.lst (iV (qs.map fun q => (q.length : Int)))) → Q (.ref p) H'
theorem st_inv {K : PySem.W.Frag} {H : Hp} {v : V} {n : Int} {qs : List (List Int)} (h : Dt K H v (stD n qs)) : ∃ a qa xs, v = .ref a ∧ TupAt K H a [.int n, .ref qa] ∧ TupAt K H qa xs ∧ DtAll K H xs (qs.map intsD) := by
  obtain ⟨a, ys, rfl, ha, hys⟩ := h.tup_inv
  cases hys with
  | cons h1 h2 =>
    cases h2 with
    | cons h2 h3 =>
      cases h3
      cases h1
      obtain ⟨qa, xs, rfl, hq, hx⟩ := h2.tup_inv
      exact ⟨a, qa, xs, rfl, ha, hq, hx⟩
theorem qs_at {K : PySem.W.Frag} {H : Hp} {qs : List (List Int)} {xs : List V} (h : DtAll K H xs (qs.map intsD)) {i : Nat} {x : V} (e : xs[i]? = some x) : ∃ q qa, qs[i]? = some q ∧ x = .ref qa ∧ TupAt K H qa (iV q) := by
  obtain ⟨d, hd, hyd⟩ := h.get e
  rw [List.getElem?_map] at hd
  cases e : qs[i]? with
  | none => rw [e] at hd; cases hd
  | some z =>
    rw [e] at hd
    cases hd
    obtain ⟨sa, ss, rfl, hsa, hss⟩ := hyd.tup_inv
    have ess := hss.ints
    subst ess
    exact ⟨z, sa, rfl, rfl, hsa⟩
section
variable {P : Program} {w : World} {K : PySem.W.Frag} {mg : Str → Option Value} {base : Heap}
theorem ok_validate_network (A : All K mg) (c_first_invalid_seat : Cal P w K mg base 3 "first_invalid_seat" (spFirstBad K)) : Cal P w K mg base 4 "validate_network" (spVNet K) := by
  refine cal_of A.d_validate_network sc_validate_network (fun _ _ _ _ _ _ us hl => match us, hl with | [_], _ => rfl) (fun vs H Q E h => ?_) (fun f cdv A' outer s H0 vs Q E hr h => ?_)
  · obtain ⟨n, net, rfl, _⟩ := h
    rfl
  · obtain ⟨n, net, rfl, hn, ok, k⟩ := h
    obtain ⟨na, xs, rfl, hna, hxs⟩ := id hn.tup_inv
    have hxl : xs.length = net.length := by rw [hxs.len, List.length_map]
    have h40 := ok.le
    have hpos := ok.pos
    obtain ⟨tM, h_MAX_STATIONS⟩ := A.c_MAX_STATIONS
    refine ⟨_, (pss_cons (ps_if (pt_cmpR op_eq (pe_callB (id := "len") (k_len (K := K) rfl) (by rfl) A.b_len (by decide +kernel) (pa_cons (pv 0) pa_nil)) pe_int (nomark _)) (pss_one ps_never) pss_nil)
 (pss_one (ps_for PassesOwn.never rfl (pi_range1 (by rfl) A.b_range (pa_cons (pe_callB (id := "len") (k_len (K := K) rfl) (by rfl) A.b_len (by decide +kernel) (pa_cons (pv 0) pa_nil)) pa_nil)) (pg_name (i := 1) sc_validate_network.nd rfl (Or.inl rfl))
 (pss_cons (ps_set (i := 2) sc_validate_network.nd rfl (Or.inl rfl) (pe_ifExp (pt_cmpR op_eq (pv 1) (pe_glob (v := .int 40) rfl h_MAX_STATIONS ⟨_, rfl⟩) (nomark _)) (pe_un un_neg pe_int) (pc c_first_invalid_seat hr (by decide) (pa_cons (pv 0) (pa_cons (pv 1) pa_nil)))))
 (pss_one (ps_if (pt_cmpR op_notN (pv 2) pe_non (nomark _)) (pss_one ps_never) pss_nil)))))), ?_⟩
    have st : Stt [] H0 [] [] H0 := Stt.init H0
    walk_at "begin"
    refine i_lenT (xs := xs) (by walk_at "sq") ?_
    walk_at "go"
    rw [decide_eq_false (by omega)]
    refine iteF ?_
    walk_at "go"
    refine i_lenT (xs := xs) (by walk_at "sq") ?_
    walk_at "go"
    refine ⟨_, rfl, by omega, by omega, ForIt.go walk_range (fun i σ H => ∃ s1 s2, σ = [some (.ref na), s1, s2] ∧ Stt [] H0 [] [] H) ⟨_, _, rfl, st⟩ (fun _ _ _ _ _ => trivial) ?_ ?_⟩
    · rintro i x σ H H' hi ⟨s1, s2, rfl, st⟩ ⟨rfl, rfl⟩
      have hi' : i < net.length := by omega
      walk_at "go"
      rw [Int.zero_add]
      rw [decide_eq_false (by omega)]
      refine iteF ?_
      walk_at "go"
      have hs : net[i]? = some net[i] := by simp
      refine ⟨_, net, i, _, rfl, Dt.keep st.tk _ _ hn, hs, ok.keyZ hs, by have := (ok.size i _ hs).2; omega, fun H' e' => ?_⟩
      have st := st.ext e'
      rw [ok.bad hs]
      walk_at "go"
      refine ⟨rfl, ?_⟩
      walk_at "go"
      refine iteF ?_
      walk_at "go"
      exact ⟨_, _, rfl, st⟩
    · rintro σ H ⟨s1, s2, rfl, st⟩
      walk_at "go"
      exact k _ st.same
theorem ok_is_valid_state (A : All K mg) : Cal P w K mg base 1 "is_valid_state" (spIsState K) := by
  refine cal_of A.d_is_valid_state sc_is_valid_state (fun _ _ _ _ _ _ us hl => match us, hl with | [_, _], _ => rfl) (fun vs H Q E h => ?_) (fun f cdv A' outer s H0 vs Q E hr h => ?_)
  · obtain ⟨nv, sv, net, n, qs, rfl, _⟩ := h
    rfl
  · obtain ⟨nv, sv, net, n, qs, rfl, hn, hs, ok, so, k⟩ := h
    obtain ⟨na, ns, rfl, hna, hns⟩ := id hn.tup_inv
    obtain ⟨a, qa, xs, rfl, ha, hq, hx⟩ := st_inv hs
    have hxl : xs.length = qs.length := by rw [hx.len, List.length_map]
    have hnl : ns.length = net.length := by rw [hns.len, List.length_map]
    have hql := so.len
    have h40 := ok.le
    refine ⟨_, (pss_cons (ps_if (pt_cmpR op_ne (pe_callB (id := "len") (k_len (K := K) rfl) (by rfl) A.b_len (by decide +kernel) (pa_cons (pv 1) pa_nil)) pe_int (nomark _)) (pss_one (ps_ret pe_bl)) pss_nil)
 (pss_cons (ps_asg (pv 1) (k_tg (K := K) (n := 2) rfl rfl (pgs_cons (pg_name (i := 2) sc_is_valid_state.nd rfl (Or.inr rfl)) (pgs_cons (pg_name (i := 3) sc_is_valid_state.nd rfl (Or.inl rfl)) pgs_nil))))
 (pss_cons (ps_if (PW.pt (pw_or (pt_cmpR op_lt (pv 2) pe_int (nomark _)) (pw_or1 (pt_cmpR op_ne (pe_callB (id := "len") (k_len (K := K) rfl) (by rfl) A.b_len (by decide +kernel) (pa_cons (pv 3) pa_nil)) (pe_callB (id := "len") (k_len (K := K) rfl) (by rfl) A.b_len (by decide +kernel) (pa_cons (pv 0) pa_nil)) (nomark _))))) (pss_one (ps_ret pe_bl)) pss_nil)
 (pss_cons (ps_if (pt_not (pt_val (pe_callB (id := "all") (k_all (K := K) rfl rfl) (by rfl) A.b_all (by decide +kernel) (pa_cons (pe_lc rfl sc_is_valid_state.nd (k_zip (K := K) rfl (by rfl) A.b_zip (pa_cons (pv 3) (pa_cons (pv 0) pa_nil))) (blkOk_by (own := [("queue", 4), ("seats", 6)]) (N := ["network", "state", "next_passenger", "queues", "queue", "waiting", "seats", "passenger"]) (sc := defScope s_is_valid_state) (by decide +kernel)) (fun _ _ _ _ _ => (k_tg (K := K) (n := 2) rfl rfl (pgs_cons (pg_name (i := 4) sc_is_valid_state.nd rfl (Or.inl rfl)) (pgs_cons (pg_name (i := 6) sc_is_valid_state.nd rfl (Or.inl rfl)) pgs_nil)))) (fun _ _ _ _ _ => pts_nil) (fun _ _ _ _ _ => (pe_cmpR op_lt (pe_callB (id := "len") (k_len (K := K) rfl) (by rfl) A.b_len (by decide +kernel) (pa_cons (pv 4) pa_nil)) (pe_callB (id := "len") (k_len (K := K) rfl) (by rfl) A.b_len (by decide +kernel) (pa_cons (pv 6) pa_nil)) (nomark _)))) pa_nil)))) (pss_one (ps_ret pe_bl)) pss_nil)
 (pss_cons (ps_set (i := 5) sc_is_valid_state.nd rfl (Or.inl rfl) (pe_lst pa_nil))
 (pss_cons (ps_for PassesOwn.never rfl (k_pt (K := K) rfl (pv 3)) (pg_name (i := 4) sc_is_valid_state.nd rfl (Or.inl rfl))
 (pss_one (ps_expr (pe_bm PySem.F.plainAttrs_list PySem.F.slot_list_extend PySem.F.type_list_extend mt_extend (pv 5) (pa_cons (pe_callTy (T := "list") (k_list (K := K) rfl) (by rfl) A.b_list (by decide +kernel) (pa_cons (pv 4) pa_nil)) pa_nil)))))
 (pss_one (ps_ret (pe_and (pe_cmpR op_eq (RZ.pe_lenSetI (by rfl) A.b_len (by rfl) A.b_set (pv 5)) (pe_callB (id := "len") (k_len (K := K) rfl) (by rfl) A.b_len (by decide +kernel) (pa_cons (pv 5) pa_nil)) (nomark _)) (pe_one (pe_callB (id := "all") (k_all (K := K) rfl rfl) (by rfl) A.b_all (by decide +kernel) (pa_cons (pe_lc rfl sc_is_valid_state.nd (k_pl (K := K) rfl (pv 5)) (blkOk_by (own := [("passenger", 7)]) (N := ["network", "state", "next_passenger", "queues", "queue", "waiting", "seats", "passenger"]) (sc := defScope s_is_valid_state) (by decide +kernel)) (fun _ _ _ _ _ => (pg_name (i := 7) sc_is_valid_state.nd rfl (Or.inl rfl))) (fun _ _ _ _ _ => pts_nil) (fun _ _ _ _ _ => (pe_chain op_le op_lt pe_int (pv 7) (pv 2)))) pa_nil)))))))))))), ?_⟩
    have st : Stt [] H0 [] [] H0 := Stt.init H0
    walk_at "begin"
    refine i_lenT (xs := [.int n, .ref qa]) (by walk_at "sq") ?_
    walk_at "go"
    refine iteF ?_
    walk_at "go"
    refine i_gtup (xs := [.int n, .ref qa]) (by walk_at "sq") rfl ?_
    walk_at "go"
    rw [decide_eq_false (by have := so.one; omega)]
    refine iteF ?_
    walk_at "go"
    refine i_lenT (xs := xs) (by walk_at "sq") ?_
    walk_at "go"
    refine i_lenT (xs := ns) (by walk_at "sq") ?_
    walk_at "go"
    rw [decide_eq_true (by omega)]
    refine iteF ?_
    walk_at "go"
    -- all queues are short
    refine ⟨false, false, qa, na, xs, ns, rfl, sqBT (by walk_at "sq"), sqBT (by walk_at "sq"), LcIt.map (walk_zipB (xs := xs) (ys := ns) (n := qs.length) (by omega)) (List.replicate qs.length (.bl true)) (by simp) (sz_lt (by omega)) (fun H' e => ⟨sqBT (hq.keep (TK.same e)).sq, sqBT (hna.keep (TK.same e)).sq⟩) ?_ ?_⟩
    · rintro i v y H1 H' N hi hy e1 ⟨T, x1, x2, rfl, hT, rfl, hx1, hx2⟩ q
      obtain ⟨qq, qb, hqi, rfl, hqb⟩ := qs_at hx hx1
      obtain ⟨seats, sb, hsi, rfl, hsb⟩ := net_at hns hx2
      have e2 : Same H0 (upd H1 T (.tup [.ref qb, .ref sb])) := e1.trans (Same.new hT)
      walk_at "go"
      refine i_gtup (xs := [.ref qb, .ref sb]) (SqT.of upd_same) rfl ?_
      walk_at "go"
      refine ⟨rfl, ?_⟩
      walk_at "go"
      refine i_lenT ((hqb.keep (TK.same e2)).sq) ?_
      walk_at "go"
      refine i_lenT ((hsb.keep (TK.same e2)).sq) ?_
      walk_at "go"
      have hsh := so.short i qq seats hqi hsi
      rw [iV_len, List.length_map, decide_eq_true (by omega)]
      rw [List.getElem?_replicate, if_pos hi] at hy
      obtain rfl := Option.some.inj hy
      exact q _ (Same.new hT)
    · intro D H hD e1 e2
      have st := st.fresh hD e1 e2 trivial
      walk_at "go"
      refine i_all (bs := List.replicate qs.length true) (by rw [List.map_replicate]; walk_at "sq") ?_
      have : (List.replicate qs.length true).all id = true := by simp
      rw [this]
      walk_at "go"
      refine iteF ?_
      walk_at "go"
      refine st_newL st (by simp) fun wl nw st => ?_
      have st := st.picks [1] (by decide) (L' := [(wl, .lst (iV ((qs.take 0).flatten)))]) rfl
      walk_at "go"
      -- for queue in queues: waiting.extend(list(queue))
      refine ⟨qa, rfl, ⟨_, by walk_at "sq"⟩, ForIt.go (walk_tup (xs := xs)) (fun i σ H => ∃ s4, σ = [some (.ref na), some (.ref a), some (.int n), some (.ref qa), s4, some (.ref wl), none, none] ∧ Stt [] H0 [(wl, .lst (iV ((qs.take i).flatten)))] [] H) ⟨_, rfl, st⟩ (fun i σ H _ p => ?_) ?_ ?_⟩
      · obtain ⟨_, _, st⟩ := p
        walk_at "sq"
      · rintro i x σ H H' hi ⟨s4, rfl, st⟩ ⟨rfl, hxi⟩
        obtain ⟨qq, qb, hqi, rfl, hqb⟩ := qs_at hx hxi
        walk_at "go"
        refine i_tyL (xs := iV ((qs.take i).flatten)) (by walk_at "sq") ?_
        walk_at "go"
        refine st_list st (ys := iV qq) (.inr (by walk_at "sq")) fun l H hl st => ?_
        walk_at "go"
        have b1 : (qs.take i).flatten.length ≤ 8 * (qs.take i).length := flatten_le fun q hq => so.qlen ok q (List.mem_of_mem_take hq)
        have b2 := so.qlen ok qq (List.mem_of_getElem? hqi)
        have b3 : (qs.take i).length ≤ 40 := by rw [List.length_take]; omega
        refine st_extend st 0 rfl (zs := iV qq) (by walk_at "at") (by rw [iV_len, iV_len]; omega) fun H st => ?_
        have st := st.picks [0] (by decide) (L' := [(wl, .lst (iV ((qs.take i).flatten) ++ iV qq))]) rfl
        refine ⟨_, rfl, ?_⟩
        rw [flatten_take qs i hqi]
        have e : iV ((qs.take i).flatten ++ qq) = iV ((qs.take i).flatten) ++ iV qq := by simp [iV]
        rw [e]
        exact st
      · rintro σ H ⟨s4, rfl, st⟩
        rw [hxl, List.take_length] at st
        have hw := so.wlen ok
        walk_at "go"
        refine ⟨wl, qs.flatten, rfl, by walk_at "sq", so.nodup, by omega, ?_⟩
        walk_at "go"
        refine i_lenL (xs := iV qs.flatten) (by walk_at "sq") ?_
        walk_at "go"
        rw [iV_len, decide_eq_true rfl]
        refine iteT ?_
        walk_at "go"
        refine ⟨wl, rfl, ⟨_, by walk_at "sq"⟩, LcIt.map (walk_list (xs := iV qs.flatten)) (List.replicate qs.flatten.length (.bl true)) (by rw [List.length_replicate, iV_len]) (sz_lt (by rw [iV_len]; omega)) (fun H' e => Same.seq e (by walk_at "sq")) ?_ ?_⟩
        · rintro i v y H1 H' N hi hy e1 ⟨rfl, hv⟩ q
          rw [iV_len] at hi
          obtain ⟨p, hp, rfl⟩ : ∃ p, qs.flatten[i]? = some p ∧ V.int p = v := by
            unfold iV at hv
            rw [List.getElem?_map, List.getElem?_eq_getElem hi] at hv
            exact ⟨_, List.getElem?_eq_getElem hi, Option.some.inj hv⟩
          have hr := so.rng p (List.mem_of_getElem? hp)
          walk_at "go"
          refine ⟨rfl, ?_⟩
          walk_at "go"
          rw [decide_eq_true hr.1]
          refine iteT ?_
          walk_at "go"
          rw [decide_eq_true hr.2]
          rw [List.getElem?_replicate, if_pos hi] at hy
          obtain rfl := Option.some.inj hy
          exact q _ (Same.refl _)
        · intro D H' hD e1 e2
          walk_at "go"
          refine i_all (bs := List.replicate qs.flatten.length true) (by rw [List.map_replicate]; exact SqL.of e2) ?_
          have : (List.replicate qs.flatten.length true).all id = true := by simp
          rw [this]
          exact k _ (st.same.trans e1)
theorem ok_validate_state (A : All K mg) (c_is_valid_state : Cal P w K mg base 1 "is_valid_state" (spIsState K)) : Cal P w K mg base 2 "validate_state" (spVState K) := by
  refine cal_of A.d_validate_state sc_validate_state (fun _ _ _ _ _ _ us hl => match us, hl with | [_, _], _ => rfl) (fun vs H Q E h => ?_) (fun f cdv A' outer s H0 vs Q E hr h => ?_)
  · obtain ⟨nv, sv, net, n, qs, rfl, _⟩ := h
    rfl
  · obtain ⟨nv, sv, net, n, qs, rfl, hn, hs, ok, so, k⟩ := h
    refine ⟨_, (pss_one (ps_if (pt_not (pt_val (pc c_is_valid_state hr (by decide) (pa_cons (pv 0) (pa_cons (pv 1) pa_nil))))) (pss_one ps_never) pss_nil)), ?_⟩
    walk_at "begin"
    refine ⟨_, _, net, n, qs, rfl, hn, hs, ok, so, fun H' e => ?_⟩
    walk_at "go"
    refine iteF ?_
    walk_at "go"
    exact k _ e
end
end Fb

namespace Fb
open PySem PySem.Spec PyProof.Rows L2
/-! ### the source of draws -/
def rngL (h c : Addr) (m i : Int) (cells : List Int) (L : List (Addr × HO)) : List (Addr × HO) := (h, .lst [.int m, .ref c, .int i]) :: (c, .lst (iV cells)) :: L
def Rg (H : Hp) (h c : Addr) : Prop := ∃ m i cells, H h = some (.lst [.int m, .ref c, .int i]) ∧ H c = some (.lst (iV cells)) ∧ cells.length ≤ 63
theorem Rg.ne {H : Hp} {h c : Addr} (r : Rg H h c) : h ≠ c := fun e => by
  obtain ⟨m, i, cells, h1, h2, _⟩ := r
  subst e
  rw [h1] at h2
  have := Option.some.inj h2
  have := HO.lst.inj this
  unfold iV at this
  cases cells with
  | nil => cases this
  | cons a r =>
    cases r with
    | nil => simp at this
    | cons b r => simp at this
theorem Rg.start {H : Hp} {h c : Addr} (r : Rg H h c) : ∃ m i cells, cells.length ≤ 63 ∧ Stt [h, c] H (rngL h c m i cells []) [] H := by
  have ne := r.ne
  obtain ⟨m, i, cells, h1, h2, h3⟩ := r
  refine ⟨m, i, cells, h3, Stt.start [h, c] _ H (fun p hp => ?_) rfl (by simp [ne])⟩
  rcases List.mem_cons.mp hp with e | hp
  · rw [e]; exact ⟨h1, trivial⟩
  · rw [List.mem_singleton.mp hp]; exact ⟨h2, trivial⟩
section
variable {B : List Addr} {H0 H H' : Hp} {L : List (Addr × HO)} {P : List (Hp → Prop)} {h c : Addr} {m i : Int} {cells : List Int}
theorem Stt.rg (s : Stt B H0 (rngL h c m i cells L) P H) (hc : cells.length ≤ 63) : Rg H h c := ⟨m, i, cells, s.at 0 rfl, s.at 1 rfl, hc⟩
theorem Stt.rng (s : Stt B H0 (rngL h c m i cells L) P H) (e : ExB [h, c] H H') (r : Rg H' h c) : ∃ m i cells, cells.length ≤ 63 ∧ Stt B H0 (rngL h c m i cells L) P H' := by
  obtain ⟨m', i', cells', h1, h2, h3⟩ := r
  refine ⟨m', i', cells', h3, Stt.upds (L1 := [(h, .lst [.int m, .ref c, .int i]), (c, .lst (iV cells))]) (L1' := [(h, .lst [.int m', .ref c, .int i']), (c, .lst (iV cells'))]) s rfl e (fun p hp => ?_) (fun p hp => ?_)⟩
  · rcases List.mem_cons.mp hp with e | hp
    · rw [e]; exact h1
    · rw [List.mem_singleton.mp hp]; exact h2
  · rcases List.mem_cons.mp hp with e | hp
    · rw [e]; trivial
    · rw [List.mem_singleton.mp hp]; trivial
theorem Stt.exB (s : Stt B H0 L P H) : ExB B H0 H := s.ex
end
def spMix (K : PySem.W.Frag) : Sp := fun vs H Q _ => ∃ (a : Addr) (ns : List Int) (z : Int), vs = [.ref a, .int z] ∧ SqL K H a (iV ns) ∧ ns.length ≤ 63 ∧ ∀ h c H', H h = none → H c = none → Same H H' → Rg H' h c → Q (.ref h) H'
def spNext : Sp := fun vs H Q _ => ∃ (h c : Addr) (lim : Int), vs = [.ref h, .int lim] ∧ Rg H h c ∧ 0 < lim ∧ lim < 2 ^ 63 ∧ ∀ r H', 0 ≤ r → r < lim → ExB [h, c] H H' → Rg H' h c → Q (.int r) H'
theorem st_next {B : List Addr} {H0 H : Hp} {L : List (Addr × HO)} {P : List (Hp → Prop)} {h c : Addr} {m i : Int} {cells : List Int} {lim : Int} {Q : VK} {E : XK} (s : Stt B H0 (rngL h c m i cells L) P H) (hc : cells.length ≤ 63) (h0 : 0 < lim) (h1 : lim < 2 ^ 63)
    (k : ∀ r m i cells H', 0 ≤ r → r < lim → cells.length ≤ 63 → Stt B H0 (rngL h c m i cells L) P H' → Q (.int r) H') : spNext [.ref h, .int lim] H Q E :=
  ⟨h, c, lim, rfl, s.rg hc, h0, h1, fun r H' r0 r1 e rg => by
    obtain ⟨m', i', cells', hc', st⟩ := s.rng e rg
    exact k r m' i' cells' H' r0 r1 hc' st⟩
section
variable {P : Program} {w : World} {K : PySem.W.Frag} {mg : Str → Option Value} {base : Heap}
end
end Fb

namespace Fb
open PySem PySem.Spec PyProof.Rows L2
/-! ### draws that keep the script -/
/-- the script at a may be read, whatever becomes of h -/
def Scr (K : PySem.W.Frag) (H : Hp) (h a : Addr) : Prop := ∃ ns : List Int, ns.length ≤ 63 ∧ ((∀ H', SqL K H' a (iV ns)) ∨ (a ≠ h ∧ Rd H a (.lst (iV ns))))
/-- the draws at h -/
def Dr (K : PySem.W.Frag) (H : Hp) (h a : Addr) : Prop := (∃ (i : Nat) (m r : Int), H h = some (.lst [.ref a, .int (i : Nat), .int m, .int r])) ∧ Scr K H h a
def dL (h a : Addr) (i : Nat) (m r : Int) (L : List (Addr × HO)) : List (Addr × HO) := (h, .lst [.ref a, .int (i : Nat), .int m, .int r]) :: L
/-- the script may be read in each state of a walk -/
def SrcOk (K : PySem.W.Frag) (B : List Addr) (H0 : Hp) (h a : Addr) : Prop := ∀ H, (∀ b o, b ∉ B → H0 b = some o → H b = some o) → Scr K H h a
section
variable {K : PySem.W.Frag} {B : List Addr} {H0 H H' : Hp} {L : List (Addr × HO)} {P : List (Hp → Prop)} {h a : Addr} {i : Nat} {m r : Int}
theorem Scr.sq (s : Scr K H h a) : ∃ ns : List Int, ns.length ≤ 63 ∧ SqL K H a (iV ns) := by
  obtain ⟨ns, hl, hs | ⟨_, hs⟩⟩ := s
  · exact ⟨ns, hl, hs H⟩
  · exact ⟨ns, hl, .inl hs⟩
theorem Scr.ex (s : Scr K H h a) (e : ∀ b o, b ∉ [h] → H b = some o → H' b = some o) : Scr K H' h a := by
  obtain ⟨ns, hl, hs | ⟨hn, hs⟩⟩ := s
  · exact ⟨ns, hl, .inl hs⟩
  · refine ⟨ns, hl, .inr ⟨hn, ?_⟩⟩
    rcases hs with hs | ⟨o, hs⟩
    · exact .inl (e _ _ (by simp [hn]) hs)
    · exact .inr ⟨o, e _ _ (by simp [hn]) hs⟩
theorem Dr.src (d : Dr K H h a) : SrcOk K [h] H h a := fun _ e => d.2.ex e
/-- at a law's start: h is new -/
theorem Scr.first {ns : List Int} (hs : SqL K H0 a (iV ns)) (hl : ns.length ≤ 63) (hn : H0 h = none) : SrcOk K [] H0 h a := fun H e => by
  rcases hs with hs | hs
  · refine ⟨ns, hl, .inr ⟨?_, ?_⟩⟩
    · rintro rfl
      rcases hs with hs | ⟨o, hs⟩
      · rw [hn] at hs; cases hs
      · rw [hn] at hs; cases hs
    · rcases hs with hs | ⟨o, hs⟩
      · exact .inl (e _ _ (by simp) hs)
      · exact .inr ⟨o, e _ _ (by simp) hs⟩
  · exact ⟨ns, hl, .inl fun _ => .inr hs⟩
theorem Stt.dr (s : Stt B H0 (dL h a i m r L) P H) (hS : SrcOk K B H0 h a) : Dr K H h a := ⟨⟨i, m, r, s.at 0 rfl⟩, hS H s.ex⟩
theorem Stt.drn (s : Stt B H0 (dL h a i m r L) P H) (e : ExB [h] H H') (d : Dr K H' h a) : ∃ i m r, Stt B H0 (dL h a i m r L) P H' := by
  obtain ⟨⟨i', m', r', h1⟩, _⟩ := d
  refine ⟨i', m', r', Stt.upds (L1 := [(h, .lst [.ref a, .int (i : Nat), .int m, .int r])]) (L1' := [(h, .lst [.ref a, .int (i' : Nat), .int m', .int r'])]) s rfl e (fun p hp => ?_) (fun p hp => ?_)⟩
  · rw [List.mem_singleton.mp hp]; exact h1
  · rw [List.mem_singleton.mp hp]; trivial
theorem Dr.start (d : Dr K H h a) : ∃ i m r, Stt [h] H (dL h a i m r []) [] H ∧ SrcOk K [h] H h a := by
  obtain ⟨⟨i, m, r, h1⟩, s⟩ := id d
  exact ⟨i, m, r, Stt.start [h] _ H (fun p hp => by rw [List.mem_singleton.mp hp]; exact ⟨h1, trivial⟩) rfl (by simp), d.src⟩
end
def spStart (K : PySem.W.Frag) : Sp := fun vs H Q _ => ∃ (a : Addr) (ns : List Int), vs = [.ref a] ∧ SqL K H a (iV ns) ∧ ∀ h m H', H h = none → Same H H' → H' h = some (.lst [.ref a, .int ((0 : Nat) : Int), .int m, .int 0]) → Q (.ref h) H'
def spDrawn (K : PySem.W.Frag) : Sp := fun vs H Q _ => ∃ (h a : Addr) (n : Int), vs = [.ref h, .int n] ∧ Dr K H h a ∧ 0 < n ∧ n < 2 ^ 64 ∧ ∀ r H', 0 ≤ r → r < n → ExB [h] H H' → Dr K H' h a → Q (.int r) H'
theorem st_drawn {K : PySem.W.Frag} {B : List Addr} {H0 H : Hp} {L : List (Addr × HO)} {P : List (Hp → Prop)} {h a : Addr} {i : Nat} {m r : Int} {n : Int} {Q : VK} {E : XK} (s : Stt B H0 (dL h a i m r L) P H) (hS : SrcOk K B H0 h a) (h0 : 0 < n) (h1 : n < 2 ^ 64)
    (k : ∀ x i m r H', 0 ≤ x → x < n → Stt B H0 (dL h a i m r L) P H' → Q (.int x) H') : spDrawn K [.ref h, .int n] H Q E :=
  ⟨h, a, n, rfl, s.dr hS, h0, h1, fun x H' r0 r1 e d => by
    obtain ⟨i', m', r', st⟩ := s.drn e d
    exact k x i' m' r' H' r0 r1 st⟩
section
variable {P : Program} {w : World} {K : PySem.W.Frag} {mg : Str → Option Value} {base : Heap}
theorem ok_law_start (A : All K mg) : Cal P w K mg base 1 "_law_start" (spStart K) := by
  refine cal_of A.d_law_start sc_law_start (fun _ _ _ _ _ _ us hl => match us, hl with | [_], _ => rfl) (fun vs H Q E h => ?_) (fun f cdv A' outer s H0 vs Q E hr h => ?_)
  · obtain ⟨a, ns, rfl, _⟩ := h
    rfl
  · obtain ⟨a, ns, rfl, hs, k⟩ := h
    refine ⟨_, (pss_cons (ps_set (i := 1) sc_law_start.nd rfl (Or.inl rfl) pe_int)
 (pss_cons (ps_for PassesOwn.never rfl (k_pl (K := K) rfl (pv 0)) (pg_name (i := 2) sc_law_start.nd rfl (Or.inl rfl))
 (pss_one (ps_set (i := 1) sc_law_start.nd rfl (Or.inl rfl) (pe_op op_mod (pe_op op_add (pe_op op_add (pe_op op_mul (pv 1) pe_int) (pv 2)) pe_int) pe_int))))
 (pss_one (ps_ret (pe_lst (pa_cons (pv 0) (pa_cons pe_int (pa_cons (pv 1) (pa_cons pe_int pa_nil))))))))), ?_⟩
    have st : Stt [] H0 [] [] H0 := Stt.init H0
    walk_at "begin"
    refine ⟨a, rfl, ⟨_, hs⟩, ForIt.go (walk_list (xs := iV ns)) (fun i σ H => ∃ x s3, σ = [some (.ref a), some (.int x), s3] ∧ Stt [] H0 [] [] H) ⟨_, _, rfl, st⟩ (fun i σ H _ p => ?_) ?_ ?_⟩
    · obtain ⟨_, _, _, st⟩ := p
      exact st.same.seq hs
    · rintro i x σ H H' hi ⟨x0, s3, rfl, st⟩ ⟨rfl, hx⟩
      obtain ⟨y, rfl⟩ : ∃ y, V.int y = x := by
        unfold iV at hx
        rw [List.getElem?_map] at hx
        cases e : ns[i]? with
        | none => rw [e] at hx; cases hx
        | some y => rw [e] at hx; exact ⟨y, Option.some.inj hx⟩
      walk_at "go"
      refine i_I (.inr ⟨by decide, by decide⟩) ?_
      walk_at "go"
      refine i_I (by decide) ?_
      walk_at "go"
      exact ⟨_, _, rfl, st⟩
    · rintro σ H ⟨x0, s3, rfl, st⟩
      walk_at "go"
      refine st_newL st (by simp) fun h nh st' => ?_
      exact k h _ _ (st'.isNew 0 rfl) st'.same (st'.at 0 rfl)
theorem ok_law_drawn (A : All K mg) : Cal P w K mg base 1 "_law_drawn" (spDrawn K) := by
  refine cal_of A.d_law_drawn sc_law_drawn (fun _ _ _ _ _ _ us hl => match us, hl with | [_, _], _ => rfl) (fun vs H Q E h => ?_) (fun f cdv A' outer s H0 vs Q E hr h => ?_)
  · obtain ⟨h, a, n, rfl, _⟩ := h
    rfl
  · obtain ⟨h, a, n, rfl, d, l0, l1, k⟩ := h
    obtain ⟨i, m, r, st, hS⟩ := d.start
    have hln : n.natAbs < 2 ^ 64 := by omega
    refine ⟨_, (pss_cons (ps_if (pt_cmpR op_gt (pe_ix (k_ixL (K := K) rfl) (pv 0) pe_int (fun _ _ => rfl)) pe_int (nomark _)) (pss_cons (ps_set (i := 2) sc_law_drawn.nd rfl (Or.inl rfl) (pe_op op_mod (pe_callTy (T := "int") f_int (by rfl) A.b_int (by decide +kernel) (pa_cons (pe_ix (k_ixL (K := K) rfl) (pv 0) pe_int (fun _ _ => rfl)) pa_nil)) (pv 1)))
 (pss_cons (ps_asg (pe_op op_fdivW (pe_ix (k_ixL (K := K) rfl) (pv 0) pe_int (fun _ _ => rfl)) (pv 1)) (pg_sub (pv 0) pe_int set_list))
 (pss_one (ps_ret (pv 2))))) pss_nil)
 (pss_cons (ps_asg (pe_op op_add (pe_ix (k_ixL (K := K) rfl) (pv 0) pe_int (fun _ _ => rfl)) pe_int) (pg_sub (pv 0) pe_int set_list))
 (pss_cons (ps_if (pt_cmpR op_le (pe_ix (k_ixL (K := K) rfl) (pv 0) pe_int (fun _ _ => rfl)) (pe_callB (id := "len") (k_len (K := K) rfl) (by rfl) A.b_len (by decide +kernel) (pa_cons (pe_ix (k_ixL (K := K) rfl) (pv 0) pe_int (fun _ _ => rfl)) pa_nil)) (nomark _)) (pss_cons (ps_set (i := 3) sc_law_drawn.nd rfl (Or.inl rfl) (pe_ix (k_ixL (K := K) rfl) (pe_ix (k_ixL (K := K) rfl) (pv 0) pe_int (fun _ _ => rfl)) (pe_op op_sub (pe_ix (k_ixL (K := K) rfl) (pv 0) pe_int (fun _ _ => rfl)) pe_int) (fun _ _ => rfl)))
 (pss_cons (ps_asg (pe_ifExp (pt_cmpR op_ge (pv 3) (pe_op op_pow pe_int pe_int) (nomark _)) (pe_op op_fdivW (pv 3) (pv 1)) pe_int) (pg_sub (pv 0) pe_int set_list))
 (pss_one (ps_ret (pe_op op_mod (pe_callTy (T := "int") f_int (by rfl) A.b_int (by decide +kernel) (pa_cons (pv 3) pa_nil)) (pv 1)))))) pss_nil)
 (pss_cons (ps_asg (pe_op op_mod (pe_op op_add (pe_op op_mul (pe_ix (k_ixL (K := K) rfl) (pv 0) pe_int (fun _ _ => rfl)) pe_int) pe_int) pe_int) (pg_sub (pv 0) pe_int set_list))
 (pss_one (ps_ret (pe_op op_mod (pe_op op_fdiv (pe_ix (k_ixL (K := K) rfl) (pv 0) pe_int (fun _ _ => rfl)) pe_int) (pv 1)))))))), ?_⟩
    walk_at "begin"
    refine i_ixL (xs := [.ref a, .int (i : Nat), .int m, .int r]) (by walk_at "sq") (v := .int r) rfl ?_
    walk_at "go"
    refine ite2 (fun h1 => ?_) (fun h1 => ?_)
    · walk_at "go"
      refine i_ixL (xs := [.ref a, .int (i : Nat), .int m, .int r]) (by walk_at "sq") (v := .int r) rfl ?_
      walk_at "go"
      refine i_I l0 ?_
      walk_at "go"
      refine i_ixL (xs := [.ref a, .int (i : Nat), .int m, .int r]) (by walk_at "sq") (v := .int r) rfl ?_
      walk_at "go"
      refine i_I (wide_div l0 hln (by decide) (by decide)) ?_
      walk_at "go"
      refine st_setL st 0 rfl (j := 3) rfl fun H st => ?_
      walk_at "go"
      have st : Stt [h] H0 (dL h a i m (r / n) []) [] H := st
      exact k _ _ (Int.emod_nonneg _ (by omega)) (Int.emod_lt_of_pos _ l0) st.exB (st.dr hS)
    · walk_at "go"
      refine i_ixL (xs := [.ref a, .int (i : Nat), .int m, .int r]) (by walk_at "sq") (v := .int (i : Nat)) rfl ?_
      walk_at "go"
      refine st_setL st 0 rfl (j := 1) rfl fun H st => ?_
      rw [show ((i : Nat) : Int) + 1 = ((i + 1 : Nat) : Int) from rfl] at st
      have st : Stt [h] H0 (dL h a (i + 1) m r []) [] H := st
      walk_at "go"
      refine i_ixL (xs := [.ref a, .int (i + 1 : Nat), .int m, .int r]) (by walk_at "sq") (v := .int (i + 1 : Nat)) rfl ?_
      walk_at "go"
      refine i_ixL (xs := [.ref a, .int (i + 1 : Nat), .int m, .int r]) (by walk_at "sq") (v := .ref a) rfl ?_
      walk_at "go"
      obtain ⟨ns, hl, hs⟩ := (hS H st.ex).sq
      refine i_lenL hs ?_
      rw [iV_len]
      walk_at "go"
      refine ite2 (fun h2 => ?_) (fun h2 => ?_)
      · have h2 : ((i + 1 : Nat) : Int) ≤ (ns.length : Int) := of_decide_eq_true h2
        have hil : i < ns.length := by omega
        walk_at "go"
        refine i_ixL (xs := [.ref a, .int (i + 1 : Nat), .int m, .int r]) (by walk_at "sq") (v := .ref a) rfl ?_
        walk_at "go"
        refine i_ixL (xs := [.ref a, .int (i + 1 : Nat), .int m, .int r]) (by walk_at "sq") (v := .int (i + 1 : Nat)) rfl ?_
        walk_at "go"
        rw [show ((i + 1 : Nat) : Int) - 1 = ((i : Nat) : Int) by omega]
        refine i_ixL hs (v := .int ns[i]) (atI_nat (by unfold iV; rw [List.getElem?_map, List.getElem?_eq_getElem hil]; rfl)) ?_
        generalize ns[i] = cell
        walk_at "go"
        refine i_I ⟨by decide, by decide, by decide⟩ ?_
        walk_at "go"
        rw [show (10 : Int) ^ (18 : Int).toNat = 1000000000000000000 by decide]
        have fin : ∀ (x : Int) (H : Hp), Stt [h] H0 (dL h a (i + 1) m x []) [] H → Q (.int (cell % n)) H := fun x H st => k _ _ (Int.emod_nonneg _ (by omega)) (Int.emod_lt_of_pos _ l0) st.exB (st.dr hS)
        refine ite2 (fun h3 => ?_) (fun h3 => ?_)
        · walk_at "go"
          refine i_I (wide_div l0 hln (by decide) (by decide)) ?_
          walk_at "go"
          refine st_setL st 0 rfl (j := 3) rfl fun H st => ?_
          walk_at "go"
          refine i_I l0 ?_
          exact fin (cell / n) H st
        · walk_at "go"
          refine st_setL st 0 rfl (j := 3) rfl fun H st => ?_
          walk_at "go"
          refine i_I l0 ?_
          exact fin 0 H st
      · walk_at "go"
        refine i_ixL (xs := [.ref a, .int (i + 1 : Nat), .int m, .int r]) (by walk_at "sq") (v := .int m) rfl ?_
        walk_at "go"
        refine i_I (.inr ⟨by decide, by decide⟩) ?_
        walk_at "go"
        refine i_I (by decide) ?_
        walk_at "go"
        refine st_setL st 0 rfl (j := 2) rfl fun H st => ?_
        generalize (m * 48271 + 11) % 2147483647 = m1 at st ⊢
        have st : Stt [h] H0 (dL h a (i + 1) m1 r []) [] H := st
        walk_at "go"
        refine i_ixL (xs := [.ref a, .int (i + 1 : Nat), .int m1, .int r]) (by walk_at "sq") (v := .int m1) rfl ?_
        walk_at "go"
        refine i_I ⟨by decide, by decide⟩ ?_
        walk_at "go"
        refine i_I l0 ?_
        exact k _ _ (Int.emod_nonneg _ (by omega)) (Int.emod_lt_of_pos _ l0) st.exB (st.dr hS)
end
end Fb

namespace Fb
open PySem PySem.Spec PyProof.Rows L2
/-! ### networks that are drawn (the second family) -/
def P5 : List Str := ["a", "b", "c", "dock", "next"]
def spNet2 (K : PySem.W.Frag) : Sp := fun vs H Q _ => ∃ (h a : Addr) (n : Int), vs = [.ref h, .int n] ∧ Dr K H h a ∧ 1 ≤ n ∧ n ≤ 40 ∧ ∀ v net H', Dt K H' v (netD net) → NetOk net → (∀ seats ∈ net, ∀ k ∈ seats, isP k = true → ∃ z ∈ P5, k = .inr z) → (net.length : Int) ≤ n → ExB [h] H H' → Dr K H' h a → Q v H'
theorem port5 {n i : Nat} : ∀ z ∈ P5, okPlace n i (.inr z) := by
  intro z hz
  unfold P5 at hz
  simp only [List.mem_cons, List.not_mem_nil, or_false] at hz
  rcases hz with rfl | rfl | rfl | rfl | rfl <;> exact ⟨by decide, by decide, by decide +kernel⟩
section
variable {P : Program} {w : World} {K : PySem.W.Frag} {mg : Str → Option Value} {base : Heap}
theorem ok_law_network2 (A : All K mg) (c_law_drawn : Cal P w K mg base 1 "_law_drawn" (spDrawn K)) : Cal P w K mg base 2 "_law_network" (spNet2 K) := by
  refine cal_of A.d_law_network sc_law_network (fun _ _ _ _ _ _ us hl => match us, hl with | [_, _], _ => rfl) (fun vs H Q E h => ?_) (fun f cdv A' outer s H0 vs Q E hr h => ?_)
  · obtain ⟨h, c, n, rfl, _⟩ := h
    rfl
  · obtain ⟨h, a, n, rfl, d, n0, n1, k⟩ := h
    obtain ⟨i, m, r, st, hS⟩ := d.start
    refine ⟨_, (pss_cons (ps_par (i := 2) (j := 3) (by rfl) sc_law_network.nd rfl rfl (by decide) rfl rfl (pa_cons (pe_op op_add pe_int (pc c_law_drawn hr (by decide) (pa_cons (pv 0) (pa_cons (pv 1) pa_nil)))) (pa_cons (pe_lst pa_nil) pa_nil)) (by rfl))
 (pss_cons (ps_for PassesOwn.never rfl (pi_range1 (by rfl) A.b_range (pa_cons (pv 2) pa_nil)) (pg_name (i := 4) sc_law_network.nd rfl (Or.inl rfl))
 (pss_cons (ps_set (i := 5) sc_law_network.nd rfl (Or.inl rfl) (pe_lst pa_nil))
 (pss_cons (ps_for PassesOwn.never rfl (pi_range1 (by rfl) A.b_range (pa_cons (pe_op op_add pe_int (pc c_law_drawn hr (by decide) (pa_cons (pv 0) (pa_cons (pe_ix (k_ixL (K := K) rfl) (pe_lst (pa_cons pe_int (pa_cons pe_int (pa_cons pe_int pa_nil)))) (pc c_law_drawn hr (by decide) (pa_cons (pv 0) (pa_cons pe_int pa_nil))) (fun _ _ => rfl)) pa_nil)))) pa_nil)) (pg_name (i := 6) sc_law_network.nd rfl (Or.inl rfl))
 (pss_cons (ps_set (i := 7) sc_law_network.nd rfl (Or.inl rfl) (pe_op op_sub (pe_op op_sub (pv 2) (pv 4)) pe_int))
 (pss_one (ps_if (PW.pt (pw_and (pt_cmpR op_gt (pv 7) pe_int (nomark _)) (pw_and1 (pt_cmpR op_lt (pc c_law_drawn hr (by decide) (pa_cons (pv 0) (pa_cons pe_int pa_nil))) pe_int (nomark _))))) (pss_one (ps_expr (pe_bm PySem.F.plainAttrs_list PySem.F.slot_list_append PySem.F.type_list_append mt_append (pv 5) (pa_cons (pe_op op_add (pe_op op_add (pv 4) pe_int) (pc c_law_drawn hr (by decide) (pa_cons (pv 0) (pa_cons (pe_callB (id := "min") (f_min rfl) (by rfl) A.b_min (by decide +kernel) (pa_cons (pv 7) (pa_cons (pe_ix (k_ixL (K := K) rfl) (pe_lst (pa_cons pe_int (pa_cons pe_int (pa_cons pe_int pa_nil)))) (pc c_law_drawn hr (by decide) (pa_cons (pv 0) (pa_cons pe_int pa_nil))) (fun _ _ => rfl)) pa_nil))) pa_nil)))) pa_nil)))) (pss_one (ps_expr (pe_bm PySem.F.plainAttrs_list PySem.F.slot_list_append PySem.F.type_list_append mt_append (pv 5) (pa_cons (pe_ix (k_ixL (K := K) rfl) (pe_lst (pa_cons pe_str (pa_cons pe_str (pa_cons pe_str (pa_cons pe_str (pa_cons pe_str pa_nil)))))) (pc c_law_drawn hr (by decide) (pa_cons (pv 0) (pa_cons pe_int pa_nil))) (fun _ _ => rfl)) pa_nil))))))))
 (pss_one (ps_expr (pe_bm PySem.F.plainAttrs_list PySem.F.slot_list_append PySem.F.type_list_append mt_append (pv 3) (pa_cons (pe_callTy (T := "tuple") (k_tuple (K := K) rfl) (by rfl) A.b_tuple (by decide +kernel) (pa_cons (pv 5) pa_nil)) pa_nil)))))))
 (pss_one (ps_ret (pe_callTy (T := "tuple") (k_tuple (K := K) rfl) (by rfl) A.b_tuple (by decide +kernel) (pa_cons (pv 3) pa_nil)))))), ?_⟩
    walk_at "begin"
    refine st_drawn st hS (by omega) (by omega) fun x i m r H x0 x1 st => ?_
    walk_at "go"
    obtain ⟨cn, hcn⟩ : ∃ cn : Nat, (1 : Int) + x = cn := ⟨(1 + x).toNat, by omega⟩
    rw [hcn]
    have hcn1 : 1 ≤ cn := by omega
    have hcn2 : (cn : Int) ≤ n := by omega
    refine st_newL st (by simp) fun nl nn st => ?_
    walk_at "go"
    refine ⟨_, _, rfl, ?_⟩
    walk_at "go"
    refine ⟨_, rfl, by omega, by omega, ForIt.go walk_range (fun t σ H => ∃ s4 s5 s6 s7 i m r vs net, σ = [some (.ref h), some (.int n), some (.int cn), some (.ref nl), s4, s5, s6, s7] ∧ Stt [h] H0 (dL h a i m r [(nl, .lst vs)]) [fun H => DtAll K H vs (net.map seatsD)] H ∧ net.length = t ∧
      (∀ (q : Nat) (seats : List Key), net[q]? = some seats → 1 ≤ seats.length ∧ seats.length ≤ 8 ∧ ∀ k ∈ seats, okPlace cn q k ∧ (isP k = true → ∃ z ∈ P5, k = .inr z))) ⟨none, none, none, none, i, m, r, [], [], rfl, st.know .nil Pers.all, rfl, fun q seats h => by simp at h⟩ (fun _ _ _ _ _ => trivial) ?_ ?_⟩
    · clear st
      rintro t v σ H H' ht ⟨s4, s5, s6, s7, i, m, r, vs, net, rfl, st, hnl, hnet⟩ ⟨rfl, rfl⟩
      have ht : t < cn := by omega
      walk_at "go"
      rw [show (0 : Int) + (t : Int) = (t : Int) from Int.zero_add _]
      refine st_newL st (by simp) fun sl nsl st => ?_
      walk_at "go"
      refine st_newL st (by simp) fun l nl' st => ?_
      walk_at "go"
      refine st_drawn (L := [(nl, .lst vs), (sl, .lst []), (l, .lst [.int 2, .int 4, .int 8])]) st hS (by decide) (by decide) fun r2 i m r H r20 r21 st => ?_
      walk_at "go"
      obtain ⟨v, hv, hm⟩ := atI_mem (xs := [V.int 2, V.int 4, V.int 8]) r20 (by simpa using r21)
      refine i_ixL (by walk_at "sq") hv ?_
      have st := st.picks [0, 1, 2] (by decide) (L' := dL h a i m r [(nl, .lst vs), (sl, .lst [])]) rfl
      obtain ⟨far, rfl, f1, f8⟩ : ∃ far : Int, v = .int far ∧ 1 ≤ far ∧ far ≤ 8 := by
        simp only [List.mem_cons, List.not_mem_nil, or_false] at hm
        rcases hm with rfl | rfl | rfl
        · exact ⟨2, rfl, by decide, by decide⟩
        · exact ⟨4, rfl, by decide, by decide⟩
        · exact ⟨8, rfl, by decide, by decide⟩
      walk_at "go"
      refine st_drawn st hS (by omega) (by omega) fun r3 i m r H r30 r31 st => ?_
      walk_at "go"
      obtain ⟨sn, hsn⟩ : ∃ sn : Nat, (1 : Int) + r3 = sn := ⟨(1 + r3).toNat, by omega⟩
      rw [hsn]
      refine ⟨_, rfl, by omega, by omega, ForIt.go walk_range (fun q σ H => ∃ s6 s7 i m r ks, σ = [some (.ref h), some (.int n), some (.int cn), some (.ref nl), some (.int (t : Nat)), some (.ref sl), s6, s7] ∧ Stt [h] H0 (dL h a i m r [(nl, .lst vs), (sl, .lst (ks.map kV))]) [fun H => DtAll K H vs (net.map seatsD)] H ∧ ks.length = q ∧
        (∀ k ∈ ks, okPlace cn t k ∧ (isP k = true → ∃ z ∈ P5, k = .inr z))) ⟨s6, s7, i, m, r, [], rfl, st, rfl, fun k h => by simp at h⟩ (fun _ _ _ _ _ => trivial) ?_ ?_⟩
      · clear st
        rintro q v σ H H' hq ⟨s6, s7, i, m, r, ks, rfl, st, hkl, hks⟩ ⟨rfl, rfl⟩
        have hq : q < sn := by omega
        have hk8 : ks.length < 8 := by omega
        -- a port
        have port : ∀ {i : Nat} {m r : Int} {H : Hp} {σ : L2.St} {Q : VK}, σ[0]? = some (some (.ref h)) → Stt [h] H0 (dL h a i m r [(nl, .lst vs), (sl, .lst (ks.map kV))]) [fun H => DtAll K H vs (net.map seatsD)] H → (∀ i m r H ky, okPlace cn t ky → (isP ky = true → ∃ z ∈ P5, ky = .inr z) → Stt [h] H0 (dL h a i m r [(nl, .lst vs), (sl, .lst (ks.map kV ++ [kV ky]))]) [fun H => DtAll K H vs (net.map seatsD)] H → Q .non H) →
            tCons (tOp (rIxL K) (tLst (tCons (tC (.str "a")) (tCons (tC (.str "b")) (tCons (tC (.str "c")) (tCons (tC (.str "dock")) (tCons (tC (.str "next")) tNil)))))) (tCall (spDrawn K) [] E0 (tCons (tVar 0) (tCons (tC (.int 5)) tNil)))) tNil σ H fun xs H2 => rAppend (.ref sl) xs H2 Q := by
          intro i m r H σ Q hσ st k
          walk_at "go"
          refine st_newL st (by simp) fun l nl' st => ?_
          walk_at "go"
          refine i_var hσ ?_
          walk_at "go"
          refine st_drawn (L := [(nl, .lst vs), (sl, .lst (ks.map kV)), (l, .lst [.str "a", .str "b", .str "c", .str "dock", .str "next"])]) st hS (by decide) (by decide) fun r4 i m r H r40 r41 st => ?_
          walk_at "go"
          obtain ⟨v, hv, hm⟩ := atI_mem (xs := [V.str "a", V.str "b", V.str "c", V.str "dock", V.str "next"]) r40 (by simpa using r41)
          refine i_ixL (by walk_at "sq") hv ?_
          have st := st.picks [0, 1, 2] (by decide) (L' := dL h a i m r [(nl, .lst vs), (sl, .lst (ks.map kV))]) rfl
          obtain ⟨z, rfl, hz⟩ : ∃ z, v = .str z ∧ z ∈ P5 := by
            simp only [List.mem_cons, List.not_mem_nil, or_false] at hm
            rcases hm with rfl | rfl | rfl | rfl | rfl <;> exact ⟨_, rfl, by simp [P5]⟩
          walk_at "go"
          refine st_append st 2 rfl (by rw [List.length_map]; omega) fun H st => ?_
          exact k i m r H (.inr z) (port5 z hz) (fun _ => ⟨z, hz, rfl⟩) st
        have done : ∀ (s7 : Option V) (i : Nat) (m r : Int) (H : Hp) (ky : Key), okPlace cn t ky → (isP ky = true → ∃ z ∈ P5, ky = .inr z) → Stt [h] H0 (dL h a i m r [(nl, .lst vs), (sl, .lst (ks.map kV ++ [kV ky]))]) [fun H => DtAll K H vs (net.map seatsD)] H → ∃ (s6 s7' : Option V) (i : Nat) (m r : Int) (ks' : List Key), [some (.ref h), some (.int n), some (.int cn), some (.ref nl), some (.int (t : Nat)), some (.ref sl), some (.int (0 + (q : Int))), s7] = [some (.ref h), some (.int n), some (.int cn), some (.ref nl), some (.int (t : Nat)), some (.ref sl), s6, s7'] ∧ Stt [h] H0 (dL h a i m r [(nl, .lst vs), (sl, .lst (ks'.map kV))]) [fun H => DtAll K H vs (net.map seatsD)] H ∧ ks'.length = q + 1 ∧
            (∀ k ∈ ks', okPlace cn t k ∧ (isP k = true → ∃ z ∈ P5, k = .inr z)) := by
          intro s7 i m r H ky h1 h2 st
          refine ⟨_, _, i, m, r, ks ++ [ky], rfl, by rw [List.map_append]; exact st, by rw [List.length_append, hkl]; rfl, fun k hk => ?_⟩
          rcases List.mem_append.mp hk with hk | hk
          · exact hks k hk
          · rw [List.mem_singleton.mp hk]; exact ⟨h1, h2⟩
        walk_at "go"
        refine ite2 (fun h2 => ?_) (fun h2 => ?_)
        · have h2 : (0 : Int) < (cn : Int) - (t : Int) - 1 := of_decide_eq_true h2
          walk_at "go"
          refine st_drawn st hS (by decide) (by decide) fun r5 i m r H r50 r51 st => ?_
          walk_at "go"
          refine ite2 (fun h3 => ?_) (fun h3 => ?_)
          · walk_at "go"
            refine i_tyL (xs := ks.map kV) (by walk_at "sq") ?_
            walk_at "go"
            refine st_newL st (by simp) fun l nl' st => ?_
            walk_at "go"
            refine st_drawn (L := [(nl, .lst vs), (sl, .lst (ks.map kV)), (l, .lst [.int 1, .int 2, .int 40])]) st hS (by decide) (by decide) fun r6 i m r H r60 r61 st => ?_
            walk_at "go"
            obtain ⟨v, hv, hm⟩ := atI_mem (xs := [V.int 1, V.int 2, V.int 40]) r60 (by simpa using r61)
            refine i_ixL (by walk_at "sq") hv ?_
            have st := st.picks [0, 1, 2] (by decide) (L' := dL h a i m r [(nl, .lst vs), (sl, .lst (ks.map kV))]) rfl
            obtain ⟨far, rfl, f1⟩ : ∃ far : Int, v = .int far ∧ 1 ≤ far := by
              simp only [List.mem_cons, List.not_mem_nil, or_false] at hm
              rcases hm with rfl | rfl | rfl <;> exact ⟨_, rfl, by decide⟩
            walk_at "go"
            refine st_drawn st hS (by omega) (by omega) fun r7 i m r H r70 r71 st => ?_
            walk_at "go"
            refine st_append st 2 rfl (by rw [List.length_map]; omega) fun H st => ?_
            exact done _ i m r H (.inl _) ⟨by omega, by omega⟩ (fun h => by cases h) st
          · walk_at "go"
            refine i_tyL (xs := ks.map kV) (by walk_at "sq") ?_
            exact port rfl st fun i m r H ky h1 h2 st => done _ i m r H ky h1 h2 st
        · refine iteF ?_
          walk_at "go"
          refine i_tyL (xs := ks.map kV) (by walk_at "sq") ?_
          exact port rfl st fun i m r H ky h1 h2 st => done _ i m r H ky h1 h2 st
      · clear st
        rintro σ H ⟨s6, s7, i, m, r, ks, rfl, st, hkl, hks⟩
        have hkl : ks.length = sn := by omega
        walk_at "go"
        refine i_tyL (xs := vs) (by walk_at "sq") ?_
        walk_at "go"
        refine st_tupleL st (ys := ks.map kV) (by walk_at "sq") fun tp H' ntp st => ?_
        walk_at "go"
        have hk8 : ks.length ≤ 8 := by omega
        have hk1 : 1 ≤ ks.length := by omega
        have hvl : vs.length = net.length := by rw [(st.pers 0 rfl : DtAll K H' vs (net.map seatsD)).len, List.length_map]
        refine st_append st 1 rfl (by omega) fun H st => ?_
        have d1 : DtAll K H vs (net.map seatsD) := st.pers 0 rfl
        have d2 : TupAt K H tp (ks.map kV) := st.pers 1 rfl
        refine ⟨_, _, _, _, i, m, r, vs ++ [.ref tp], net ++ [ks], rfl, ?_, by rw [List.length_append, hnl]; rfl, fun q seats hq => ?_⟩
        · have st := st.picks [0, 1] (by decide) (L' := dL h a i m r [(nl, .lst (vs ++ [.ref tp]))]) rfl
          refine ((st.forget).know (φ := fun H => DtAll K H (vs ++ [.ref tp]) ((net ++ [ks]).map seatsD)) ?_ Pers.all)
          rw [List.map_append]
          exact d1.snoc (.tup d2 (DtAll.of_keys ks))
        · rw [List.getElem?_append] at hq
          split at hq
          · exact hnet q seats hq
          · rename_i hlt
            have hq0 : q - net.length = 0 := by
              have := (List.getElem?_eq_some_iff.mp hq).1
              simp at this
              omega
            rw [hq0] at hq
            obtain rfl : ks = seats := Option.some.inj hq
            have eq : q = t := by omega
            subst eq
            exact ⟨hk1, hk8, hks⟩
    · clear st
      rintro σ H ⟨s4, s5, s6, s7, i, m, r, vs, net, rfl, st, hnl, hnet⟩
      have hnl : net.length = cn := by omega
      walk_at "go"
      refine st_tupleL st (ys := vs) (by walk_at "sq") fun tp H' ntp st => ?_
      have d1 : DtAll K H' vs (net.map seatsD) := st.pers 0 rfl
      have d2 : TupAt K H' tp vs := st.pers 1 rfl
      refine k _ net _ (.tup d2 d1) ⟨by omega, by omega, fun i seats hi => ⟨(hnet i seats hi).1, (hnet i seats hi).2.1⟩, fun i seats ky hi hk => by rw [hnl]; exact ((hnet i seats hi).2.2 ky hk).1⟩ (fun seats hs ky hk => by
        obtain ⟨q, hq⟩ := List.getElem?_of_mem hs
        exact ((hnet q seats hq).2.2 ky hk).2) (by omega) st.exB (st.dr hS)
end
end Fb

namespace Fb
open PySem PySem.Spec PyProof.Rows L2
/-! ### two sorted lists of the same texts are one -/
theorem ltCps_false {a b : List Nat} : ltCps b a = false ↔ a ≤ b := by
  rw [ltCps_eq, decide_eq_false_iff_not]
  exact Iff.rfl
theorem rising_pw : ∀ (r : List Str) (p : Str), risingS p r = true → (p :: r).Pairwise (fun a b => a.cps.toList ≤ b.cps.toList)
  | [], p, _ => by simp
  | x :: r, p, h => by
    simp only [risingS, Bool.and_eq_true, Bool.not_eq_true'] at h
    have h1 : p.cps.toList ≤ x.cps.toList := ltCps_false.mp h.1
    have ih := rising_pw r x h.2
    refine List.pairwise_cons.mpr ⟨fun y hy => ?_, ih⟩
    rcases List.mem_cons.mp hy with e | hy
    · rw [e]; exact h1
    · exact List.le_trans h1 ((List.pairwise_cons.mp ih).1 y hy)
theorem sorted_pw {l : List Str} (h : sortedS l = true) : l.Pairwise (fun a b => a.cps.toList ≤ b.cps.toList) := by
  cases l with
  | nil => exact List.Pairwise.nil
  | cons x r => exact rising_pw r x h
theorem sorted_one {a b : List Str} (p : a.Perm b) (ha : sortedS a = true) (hb : sortedS b = true) : a = b :=
  p.eq_of_pairwise (fun x y _ _ h1 h2 => by
    have := List.le_antisymm h1 h2
    exact PyProof.Rows.ext_toList this) (sorted_pw ha) (sorted_pw hb)
/-! ### data that are alike -/
def flatA : V → Bool
  | .non => true
  | .bl _ => true
  | .int _ => true
  | .str _ => true
  | _ => false
def AlV (K : PySem.W.Frag) (H : Hp) : Nat → V → V → Prop
  | 0 => fun _ _ => False
  | n + 1 => fun x y => (x = y ∧ flatA x = true) ∨ (∃ (kd : Bool) (a b : Addr) (xs ys : List V), x = .ref a ∧ y = .ref b ∧ SqB kd K H a xs ∧ SqB kd K H b ys ∧ xs.length ≤ 90000 ∧ Paired (AlV K H n) xs ys) ∨
    (∃ (a b : Addr) (ks ls : List (Key × V)) (kk ll : List Str), x = .ref a ∧ y = .ref b ∧ H a = some (.dK ks) ∧ H b = some (.dK ls) ∧ ks.map (·.1) = kk.map Sum.inr ∧ ls.map (·.1) = ll.map Sum.inr ∧ ll.Perm kk ∧ kk.length < 64 ∧ (EqR K H (EqV K H 8) x y ∨ EqDD K H x y) ∧ 2 ≤ n)
theorem EqV.same {K : PySem.W.Frag} {H H' : Hp} (e : Same H H') : ∀ n x y, EqV K H n x y → EqV K H' n x y := by
  intro n
  induction n with
  | zero => intro x y h; exact h
  | succ n ih =>
    intro x y h
    rcases h with h | h | h
    · exact .inl h
    · exact .inr (.inl h)
    · refine .inr (.inr ?_)
      rcases h with ⟨a, b, xs, ys, e1, e2, h1, h2, p⟩ | ⟨a, b, ks, ls, e1, e2, h1, h2, hl, p⟩
      · exact .inl ⟨a, b, xs, ys, e1, e2, e.seq h1, e.seq h2, Paired.mapP p ih⟩
      · exact .inr ⟨a, b, ks, ls, e1, e2, e _ _ h1, e _ _ h2, hl, fun q hq => let ⟨u, g1, g2⟩ := p q hq; ⟨u, g1, ih _ _ g2⟩⟩
theorem EqR.same {K : PySem.W.Frag} {H H' : Hp} (e : Same H H') {n : Nat} {x y : V} (h : EqR K H (EqV K H n) x y) : EqR K H' (EqV K H' n) x y := by
  rcases h with ⟨a, b, xs, ys, e1, e2, h1, h2, p⟩ | ⟨a, b, ks, ls, e1, e2, h1, h2, hl, p⟩
  · exact .inl ⟨a, b, xs, ys, e1, e2, e.seq h1, e.seq h2, Paired.mapP p (EqV.same e n)⟩
  · exact .inr ⟨a, b, ks, ls, e1, e2, e _ _ h1, e _ _ h2, hl, fun q hq => let ⟨u, g1, g2⟩ := p q hq; ⟨u, g1, EqV.same e n _ _ g2⟩⟩
theorem AlV.same {K : PySem.W.Frag} {H H' : Hp} (e : Same H H') : ∀ n x y, AlV K H n x y → AlV K H' n x y := by
  intro n
  induction n with
  | zero => intro x y h; exact h
  | succ n ih =>
    intro x y h
    rcases h with h | ⟨kd, a, b, xs, ys, e1, e2, h1, h2, hl, p⟩ | ⟨a, b, ks, ls, kk, ll, e1, e2, h1, h2, g1, g2, g3, g4, g5, g6⟩
    · exact .inl h
    · exact .inr (.inl ⟨kd, a, b, xs, ys, e1, e2, h1.seq e, h2.seq e, hl, Paired.mapP p ih⟩)
    · exact .inr (.inr ⟨a, b, ks, ls, kk, ll, e1, e2, e _ _ h1, e _ _ h2, g1, g2, g3, g4, g5.imp (EqR.same e) (EqDD.same e), g6⟩)
def spAl (K : PySem.W.Frag) (n : Nat) : Sp := fun vs H Q _ => ∃ (x y : V), vs = [x, y] ∧ AlV K H n x y ∧ ∀ H', Same H H' → Q (.bl true) H'
theorem Paired.at {α β : Type} {R : α → β → Prop} : ∀ {xs : List α} {ys : List β} {i : Nat} {x : α} {y : β}, Paired R xs ys → xs[i]? = some x → ys[i]? = some y → R x y
  | _, _, _, _, _, .nil, h, _ => by simp at h
  | _, _, 0, _, _, .cons r _, h, h' => by
    simp at h h'
    subst h h'
    exact r
  | _, _, i + 1, _, _, .cons _ t, h, h' => Paired.at (i := i) t (by simpa using h) (by simpa using h')
section
variable {P : Program} {w : World} {K : PySem.W.Frag} {mg : Str → Option Value} {base : Heap}
end
end Fb

namespace Fb
open PySem PySem.Spec PyProof.Rows L2
/-! ### _law_same -/
def spSame (K : PySem.W.Frag) (n : Nat) : Sp := fun vs H Q _ => ∃ (x y : V), vs = [x, y] ∧ AlV K H n x y ∧ ∀ H', Same H H' → Q (.bl true) H'
section
variable {P : Program} {w : World} {K : PySem.W.Frag} {mg : Str → Option Value} {base : Heap}
theorem ok_law_same (A : All K mg) (n : Nat) : Cal P w K mg base (n + 1) "_law_same" (spSame K n) := by
  induction n with
  | zero =>
    refine cal_of A.d_law_same sc_law_same (fun _ _ _ _ _ _ us hl => match us, hl with | [_, _], _ => rfl) (fun vs H Q E h => ?_) (fun f cdv A' outer s H0 vs Q E hr h => ?_)
    · obtain ⟨x, y, rfl, _⟩ := h
      rfl
    · obtain ⟨x, y, rfl, h, _⟩ := h
      exact h.elim
  | succ n c_law_same =>
    refine cal_of A.d_law_same sc_law_same (fun _ _ _ _ _ _ us hl => match us, hl with | [_, _], _ => rfl) (fun vs H Q E h => ?_) (fun f cdv A' outer s H0 vs Q E hr h => ?_)
    · obtain ⟨x, y, rfl, _⟩ := h
      rfl
    · obtain ⟨x, y, rfl, h, k⟩ := h
      have hk : n + 1 ≤ n + 1 := Nat.le_refl _
      have hu64 := hr.units
      have hu := hu_of hr
      refine ⟨_, (pss_cons (ps_if (pt_val (pe_callB (id := "isinstance") (k_isi2 (K := K) rfl) (by rfl) A.b_isinstance (by decide +kernel) (pa_cons (pv 1) (pa_cons (pe_tup (pa_cons (pe_bltn (v := .ty "tuple") (u := .type "tuple") (by rfl) A.b_tuple (by decide +kernel) rfl) (pa_cons (pe_bltn (v := .ty "list") (u := .type "list") (by rfl) A.b_list (by decide +kernel) rfl) pa_nil))) pa_nil)))) (pss_cons (ps_if (PW.pt (pw_or (pt_not (pt_val (pe_callB (id := "isinstance") (k_isi2 (K := K) rfl) (by rfl) A.b_isinstance (by decide +kernel) (pa_cons (pv 0) (pa_cons (pe_tup (pa_cons (pe_bltn (v := .ty "tuple") (u := .type "tuple") (by rfl) A.b_tuple (by decide +kernel) rfl) (pa_cons (pe_bltn (v := .ty "list") (u := .type "list") (by rfl) A.b_list (by decide +kernel) rfl) pa_nil))) pa_nil))))) (pw_or1 (pt_cmpR op_ne (pe_callB (id := "isinstance") (k_isi (K := K) rfl) (by rfl) A.b_isinstance (by decide +kernel) (pa_cons (pv 0) (pa_cons (pe_bltn (v := .ty "list") (u := .type "list") (by rfl) A.b_list (by decide +kernel) rfl) pa_nil))) (pe_callB (id := "isinstance") (k_isi (K := K) rfl) (by rfl) A.b_isinstance (by decide +kernel) (pa_cons (pv 1) (pa_cons (pe_bltn (v := .ty "list") (u := .type "list") (by rfl) A.b_list (by decide +kernel) rfl) pa_nil))) (nomark _))))) (pss_one (ps_ret pe_bl)) pss_nil)
 (pss_cons (ps_if (pt_cmpR op_ne (pe_callB (id := "len") (k_len (K := K) rfl) (by rfl) A.b_len (by decide +kernel) (pa_cons (pv 0) pa_nil)) (pe_callB (id := "len") (k_len (K := K) rfl) (by rfl) A.b_len (by decide +kernel) (pa_cons (pv 1) pa_nil)) (nomark _)) (pss_one (ps_ret pe_bl)) pss_nil)
 (pss_one (ps_ret (pe_cmpR (k_eqD (K := K) rfl hu64) (pe_lc rfl sc_law_same.nd (pi_range1 (by rfl) A.b_range (pa_cons (pe_callB (id := "len") (k_len (K := K) rfl) (by rfl) A.b_len (by decide +kernel) (pa_cons (pv 1) pa_nil)) pa_nil)) (blkOk_by (own := [("_law_k", 2)]) (N := ["_law_result", "_law_expected", "_law_k"]) (sc := defScope s_law_same) (by decide +kernel)) (fun _ _ _ _ _ => (pg_name (i := 2) sc_law_same.nd rfl (Or.inl rfl))) (fun _ _ _ _ _ => pts_one (pt_not (pt_val (pc c_law_same hr hk (pa_cons (pe_ix (k_ix (K := K) rfl) (pv 0) (pv 2) (fun _ _ => rfl)) (pa_cons (pe_ix (k_ix (K := K) rfl) (pv 1) (pv 2) (fun _ _ => rfl)) pa_nil)))))) (fun _ _ _ _ _ => (pv 2))) (pe_lst pa_nil) (nomark _)))))) pss_nil)
 (pss_cons (ps_if (pt_cmpR op_ne (pe_callB (id := "isinstance") (k_isi (K := K) rfl) (by rfl) A.b_isinstance (by decide +kernel) (pa_cons (pv 0) (pa_cons (pe_bltn (v := .ty "bool") (u := .type "bool") (by rfl) A.b_bool (by decide +kernel) rfl) pa_nil))) (pe_callB (id := "isinstance") (k_isi (K := K) rfl) (by rfl) A.b_isinstance (by decide +kernel) (pa_cons (pv 1) (pa_cons (pe_bltn (v := .ty "bool") (u := .type "bool") (by rfl) A.b_bool (by decide +kernel) rfl) pa_nil))) (nomark _)) (pss_one (ps_ret pe_bl)) pss_nil)
 (pss_one (ps_ret (pe_and (pe_cmpR op_eq (pe_callB (id := "isinstance") (k_isi (K := K) rfl) (by rfl) A.b_isinstance (by decide +kernel) (pa_cons (pv 0) (pa_cons (pe_bltn (v := .ty "int") (u := .type "int") (by rfl) A.b_int (by decide +kernel) rfl) pa_nil))) (pe_callB (id := "isinstance") (k_isi (K := K) rfl) (by rfl) A.b_isinstance (by decide +kernel) (pa_cons (pv 1) (pa_cons (pe_bltn (v := .ty "int") (u := .type "int") (by rfl) A.b_int (by decide +kernel) rfl) pa_nil))) (nomark _)) (pe_one (pe_cmpR (k_eqU (K := K) rfl hu64) (pv 0) (pv 1) (nomark _)))))))), ?_⟩
      have st : Stt [] H0 [] [] H0 := Stt.init H0
      walk_at "begin"
      rcases h with ⟨rfl, hf⟩ | ⟨kd, a, b, xs, ys, rfl, rfl, h1, h2, hl, p⟩ | ⟨a, b, ks, ls, kk, ll, rfl, rfl, h1, h2, g1, g2, g3, g4, g5, g6⟩
      · -- flat
        refine st_newT K st (by simp) fun t1 n1 st => ?_
        cases x with
        | byt _ => cases hf
        | flt _ => cases hf
        | ref _ => cases hf
        | ty _ => cases hf
        | non =>
          walk_at "go"
          refine i_is2 (a := "NoneType") (k1 := false) (k2 := false) upd_same (.base .non) (by decide +kernel) (by decide +kernel) ?_
          walk_at "go"
          refine iteF ?_
          walk_at "go"
          refine i_isN (b := "bool") (k := false) (by decide +kernel) ?_
          walk_at "go"
          refine i_isN (b := "bool") (k := false) (by decide +kernel) ?_
          walk_at "go"
          refine iteF ?_
          walk_at "go"
          refine i_isN (b := "int") (k := false) (by decide +kernel) ?_
          walk_at "go"
          refine i_isN (b := "int") (k := false) (by decide +kernel) ?_
          walk_at "go"
          refine iteT ?_
          walk_at "go"
          refine .inl ⟨rfl, ?_⟩
          rw [decide_eq_true rfl]
          exact k _ st.same
        | str z =>
          walk_at "go"
          refine i_is2 (a := "str") (k1 := false) (k2 := false) upd_same (.base (.str z)) (by decide +kernel) (by decide +kernel) ?_
          walk_at "go"
          refine iteF ?_
          walk_at "go"
          refine i_isS (b := "bool") (k := false) (by decide +kernel) ?_
          walk_at "go"
          refine i_isS (b := "bool") (k := false) (by decide +kernel) ?_
          walk_at "go"
          refine iteF ?_
          walk_at "go"
          refine i_isS (b := "int") (k := false) (by decide +kernel) ?_
          walk_at "go"
          refine i_isS (b := "int") (k := false) (by decide +kernel) ?_
          walk_at "go"
          refine iteT ?_
          walk_at "go"
          refine .inl ⟨rfl, ?_⟩
          rw [decide_eq_true rfl]
          exact k _ st.same
        | int z =>
          walk_at "go"
          refine i_is2 (a := "int") (k1 := false) (k2 := false) upd_same (.base (.int z)) (by decide +kernel) (by decide +kernel) ?_
          walk_at "go"
          refine iteF ?_
          walk_at "go"
          refine i_isI (b := "bool") (k := false) (by decide +kernel) ?_
          walk_at "go"
          refine i_isI (b := "bool") (k := false) (by decide +kernel) ?_
          walk_at "go"
          refine iteF ?_
          walk_at "go"
          refine i_isI (b := "int") (k := true) (by decide +kernel) ?_
          walk_at "go"
          refine i_isI (b := "int") (k := true) (by decide +kernel) ?_
          walk_at "go"
          refine iteT ?_
          walk_at "go"
          refine .inl ⟨rfl, ?_⟩
          rw [decide_eq_true rfl]
          exact k _ st.same
        | bl z =>
          walk_at "go"
          refine i_is2 (a := "bool") (k1 := false) (k2 := false) upd_same (.base (.bl z)) (by decide +kernel) (by decide +kernel) ?_
          walk_at "go"
          refine iteF ?_
          walk_at "go"
          refine i_isB (b := "bool") (k := true) (by decide +kernel) ?_
          walk_at "go"
          refine i_isB (b := "bool") (k := true) (by decide +kernel) ?_
          walk_at "go"
          refine iteF ?_
          walk_at "go"
          refine i_isB (b := "int") (k := true) (by decide +kernel) ?_
          walk_at "go"
          refine i_isB (b := "int") (k := true) (by decide +kernel) ?_
          walk_at "go"
          refine iteT ?_
          walk_at "go"
          refine .inl ⟨rfl, ?_⟩
          rw [decide_eq_true rfl]
          exact k _ st.same
      · -- a list or a tuple
        have hxy : xs.length = ys.length := Paired.length p
        refine st_newT K st (by simp) fun t1 n1 st => ?_
        walk_at "go"
        refine i_is2 (k1 := !kd) (k2 := kd) upd_same (ty_B (h2.seq st.same)) (by cases kd <;> decide +kernel) (by cases kd <;> decide +kernel) ?_
        walk_at "go"
        rw [show (!kd || kd) = true by cases kd <;> rfl]
        refine iteT ?_
        walk_at "go"
        refine st_newT K st (by simp) fun t2 n2 st => ?_
        walk_at "go"
        refine i_is2 (k1 := !kd) (k2 := kd) upd_same (ty_B (h1.seq st.same)) (by cases kd <;> decide +kernel) (by cases kd <;> decide +kernel) ?_
        walk_at "go"
        rw [show (!kd || kd) = true by cases kd <;> rfl]
        refine iteF ?_
        walk_at "go"
        refine i_is (ty_B (h1.seq st.same)) (k := kd) (by cases kd <;> decide +kernel) ?_
        walk_at "go"
        refine i_is (ty_B (h2.seq st.same)) (k := kd) (by cases kd <;> decide +kernel) ?_
        walk_at "go"
        rw [decide_eq_true rfl]
        refine iteF ?_
        walk_at "go"
        refine i_lenB (h1.seq st.same) ?_
        walk_at "go"
        refine i_lenB (h2.seq st.same) ?_
        walk_at "go"
        rw [hxy, decide_eq_true rfl]
        refine iteF ?_
        walk_at "go"
        refine i_lenB (h2.seq st.same) ?_
        walk_at "go"
        refine ⟨_, rfl, by omega, by omega, LcIt.go walk_range (fun D i H => Stt [] H0 [(D, .lst [])] [] H) (fun D hD => (st.new (o := .lst []) hD trivial).forget) (fun _ _ _ _ _ => trivial) ?_ ?_⟩
        · rintro D i v H H' hi st ⟨rfl, rfl⟩
          walk_at "go"
          refine ⟨rfl, ?_⟩
          have hi1 : i < ys.length := by omega
          have ax : atI xs ((0 : Int) + (i : Nat)) = some (xs[i]'(by omega)) := by rw [Int.zero_add]; exact atI_nat (by simp)
          have ay : atI ys ((0 : Int) + (i : Nat)) = some ys[i] := by rw [Int.zero_add]; exact atI_nat (by simp)
          walk_at "go"
          refine i_ixB (h1.seq st.same) ax ?_
          walk_at "go"
          refine i_ixB (h2.seq st.same) ay ?_
          walk_at "go"
          refine ⟨_, _, rfl, AlV.same st.same _ _ _ (Paired.at (i := i) p (by simp) (by simp)), fun H1 e1 => ?_⟩
          have st := st.ext e1
          walk_at "go"
          refine iteF ?_
          exact st
        · intro D H st
          walk_at "go"
          refine st_newL st (by simp) fun l nl st => ?_
          refine ⟨.list [], .list [], .lst (by walk_at "sq") .nil, .lst (by walk_at "sq") .nil, rfl, rfl, ?_⟩
          exact k _ st.same
      · -- a dict
        refine st_newT K st (by simp) fun t1 n1 st => ?_
        walk_at "go"
        refine i_is2 (a := "dict") (k1 := false) (k2 := false) upd_same (.base (.dK (st.same _ _ h2))) (by decide +kernel) (by decide +kernel) ?_
        walk_at "go"
        refine iteF ?_
        walk_at "go"
        refine i_isD (b := "bool") (k := false) (st.same _ _ h1) (by decide +kernel) ?_
        walk_at "go"
        refine i_isD (b := "bool") (k := false) (st.same _ _ h2) (by decide +kernel) ?_
        walk_at "go"
        refine iteF ?_
        walk_at "go"
        refine i_isD (b := "int") (k := false) (st.same _ _ h1) (by decide +kernel) ?_
        walk_at "go"
        refine i_isD (b := "int") (k := false) (st.same _ _ h2) (by decide +kernel) ?_
        walk_at "go"
        refine iteT ?_
        walk_at "go"
        refine .inr (g5.imp (fun g5 => ⟨8, by decide, EqR.same st.same g5, ?_⟩) fun g5 => ⟨EqDD.same st.same g5, ?_⟩)
        all_goals
        exact k _ st.same
end
end Fb

namespace Fb
open PySem PySem.Spec PyProof.Rows L2 PySem.HandSPX
/-! ### one hot among the own exceptions (cut from lerr, for the second family) -/
def trySuite : List Stmt → List Stmt
  | .Try _ [.ExceptHandler _ _ b _] _ _ _ :: _ => b
  | _ => []
theorem errTab_get {K : PySem.W.Frag} {F D : Addr} {Cs : List Addr} (t : errTab K F Cs = true) (h : D ∈ Cs) : errOne K D = true ∧ PySem.W.kitOne K (.ref D) (.type "ValueError") = some true ∧ PySem.W.exmOne K (.ref D) (.ref F) = some true ∧ ∀ C ∈ Cs, PySem.W.kitOne K (.ref D) (.ref C) = some (decide (D = C)) := by
  unfold errTab at t
  have h1 := List.all_eq_true.mp t D h
  simp only [Bool.and_eq_true, decide_eq_true_eq, List.all_eq_true] at h1
  exact ⟨h1.1.1.1, h1.1.1.2, h1.1.2, h1.2⟩
theorem errOne_exc {K : PySem.W.Frag} {C : Addr} (h : errOne K C = true) : ExcC K C ∧ XfC K C := by
  unfold errOne at h
  simp only [Bool.and_eq_true, decide_eq_true_eq] at h
  obtain ⟨⟨⟨⟨⟨⟨⟨⟨⟨h1, h2⟩, h3⟩, h4⟩, h5⟩, h6⟩, h7⟩, h8⟩, h9⟩, h10⟩ := h
  exact ⟨⟨h4, h5, h2, h6, h7, h8, h9, h10⟩, ⟨h4, h5, h2, h6⟩⟩
theorem hot_one {Cs : List Addr} (nd : Cs.Nodup) {j : Nat} {C : Addr} (h : Cs[j]? = some C) : ((Cs.map fun D => V.bl (decide (C = D))).countP fun z => eqV z (.bl true)) = 1 ∧ (Cs.map fun D => V.bl (decide (C = D)))[j]? = some (.bl true) ∧
    (∀ (m : Nat) (z : V), m < j → (Cs.map fun D => V.bl (decide (C = D)))[m]? = some z → eqV z (.bl true) = false) := by
  refine ⟨?_, ?_, fun m z hm hz => ?_⟩
  · rw [List.countP_map]
    have e : ((fun z => eqV z (.bl true)) ∘ fun D => V.bl (decide (C = D))) = fun D => D == C := by
      funext D
      show eqV (.bl (decide (C = D))) (.bl true) = (D == C)
      by_cases hd : C = D
      · subst hd
        simp [eqV]
      · rw [decide_eq_false hd]
        have : (D == C) = false := by simpa using fun e => hd e.symm
        rw [this]
        rfl
    rw [e]
    show Cs.count C = 1
    rw [nd.count, if_pos (List.mem_of_getElem? h)]
  · rw [List.getElem?_map, h]
    show some (V.bl (decide (C = C))) = _
    rw [decide_eq_true rfl]
  · rw [List.getElem?_map] at hz
    cases hD : Cs[m]? with
    | none => rw [hD] at hz; cases hz
    | some D =>
      rw [hD] at hz
      obtain rfl := Option.some.inj hz
      have : C ≠ D := fun e => by
        subst e
        have := nd_ix nd hD h
        omega
      show eqV (.bl (decide (C = D))) (.bl true) = false
      rw [decide_eq_false this]
      rfl
theorem i_isX {K : PySem.W.Frag} {D t x : Addr} {d : Option Addr} {b : Bool} {H : Hp} {Q : VK} (hd : XDict H d) (C : ExcC K D) (e : PySem.W.kitOne K (.ref D) (.ref t) = some b) (q : Q (.bl b) H) : rIsX K (.ref D) d x [.ref x, .ref t] H Q :=
  ⟨D, .ref t, .ref t, b, rfl, rfl, hd, C, fun _ r => r, e, q⟩
theorem i_isXT {K : PySem.W.Frag} {D x : Addr} {t : String} {d : Option Addr} {b : Bool} {H : Hp} {Q : VK} (hd : XDict H d) (C : ExcC K D) (e : PySem.W.kitOne K (.ref D) (.type t) = some b) (q : Q (.bl b) H) : rIsX K (.ref D) d x [.ref x, .ty t] H Q :=
  ⟨D, .ty t, .type t, b, rfl, rfl, hd, C, fun _ r => r, e, q⟩
theorem flat_hot (C : Addr) (Cs : List Addr) : (Cs.map fun D => V.bl (decide (C = D))).all flatV = true := by
  rw [List.all_map]
  exact List.all_eq_true.mpr fun _ _ => rfl
end Fb

namespace Fb
open PySem PySem.Spec PyProof.Rows L2 PySem.HandSPX L2H
/-! ### _law_outcome: what a call returns, or which exception it raises -/
def outNames : List Str := ["EmptyBoat", "InvalidCount", "InvalidData", "InvalidEntry", "InvalidName", "InvalidNetwork", "InvalidOperation", "InvalidState", "InvalidText", "ScriptSyntaxError", "UnknownCheckpoint", "UnknownPassenger", "UnknownSeat", "UnknownStation"]
def outAttrs : List (List Str) := [[], [], ["offset"], ["index"], ["name"], ["station", "seat"], ["index"], [], ["row"], ["row", "column"], ["name"], [], [], []]
def attrNames : List Str := ["station", "seat", "name", "index", "row", "column", "offset"]
/-- no class of exceptions has such an attribute -/
def outNo (K : PySem.W.Frag) (Cs : List Addr) : Bool := Cs.all fun C => attrNames.all fun x => decide (PySem.W.findIn K (.ref C) x = some none)
structure ErrO (K : PySem.W.Frag) (mg : Str → Option Value) (F : Addr) (Cs : List Addr) : Prop where
  f : mg "FerryError" = some (.ref F)
  n : ErrN mg outNames Cs
  t : errTab K F Cs = true
  nd : Cs.Nodup
  no : outNo K Cs = true
/-- the values of an exception's attributes -/
def AttrV (H : Hp) (d : Option Addr) (as : List Str) (vals : List V) : Prop := (as = [] ∧ d = none ∧ vals = []) ∨ (as ≠ [] ∧ ∃ (dd : Addr) (fs : List (Str × V)), d = some dd ∧ H dd = some (.xd fs) ∧ as.map (fun x => fs.lookup x) = vals.map some)
theorem AttrV.ext {H H' : Hp} {d : Option Addr} {as : List Str} {vals : List V} (e : Same H H') (h : AttrV H d as vals) : AttrV H' d as vals := by
  rcases h with h | ⟨h1, dd, fs, h2, h3, h4⟩
  · exact .inl h
  · exact .inr ⟨h1, dd, fs, h2, e _ _ h3, h4⟩
theorem AttrV.len {H : Hp} {d : Option Addr} {as : List Str} {vals : List V} (h : AttrV H d as vals) : vals.length = as.length := by
  rcases h with ⟨rfl, _, rfl⟩ | ⟨_, dd, fs, _, _, h4⟩
  · rfl
  · have := congrArg List.length h4
    rw [List.length_map, List.length_map] at this
    exact this.symm
theorem AttrV.xd {H : Hp} {d : Option Addr} {as : List Str} {vals : List V} (h : AttrV H d as vals) : XDict H d := by
  rcases h with ⟨_, h, _⟩ | ⟨_, dd, fs, h2, h3, _⟩
  · exact .inl h
  · exact .inr ⟨dd, fs, h2, h3⟩
def spAttr (K : PySem.W.Frag) (Cs : List Addr) : Addr × Obj → Sp := fun p vs H Q _ => ∃ (j : Nat) (C : Addr) (w : Str) (as : List Str) (vals : List V) (d : Option Addr), vs = [.ref p.1, .str w] ∧ Cs[j]? = some C ∧ outNames[j]? = some w ∧ outAttrs[j]? = some as ∧ Zc (.ref C) d p.2 ∧ (∃ vs, p.2.data = .fields vs) ∧ AttrV H d as vals ∧
  ∀ t H', H t = none → Same H H' → H' t = some (.tup vals) → Q (.ref t) H'
section
variable {P : Program} {w : World} {K : PySem.W.Frag} {mg : Str → Option Value} {base : Heap}
theorem Stt.isNone {H0 H : Hp} {L : List (Addr × HO)} {P : List (Hp → Prop)} (s : Stt [] H0 L P H) {t : Addr} (h : H t = none) : H0 t = none := by
  cases e : H0 t with
  | none => rfl
  | some o => rw [s.same t o e] at h; cases h
theorem outNo_get {Cs : List Addr} (h : outNo K Cs = true) {C : Addr} (hC : C ∈ Cs) {x : Str} (hx : x ∈ attrNames) : PySem.W.findIn K (.ref C) x = some none := of_decide_eq_true (List.all_eq_true.mp (List.all_eq_true.mp h C hC) x hx)
theorem attr1 {H : Hp} {d : Option Addr} {x : Str} {vals : List V} (h : AttrV H d [x] vals) : ∃ (dd : Addr) (fs : List (Str × V)) (v : V), d = some dd ∧ H dd = some (.xd fs) ∧ vals = [v] ∧ fs.lookup x = some v := by
  rcases h with ⟨h, _⟩ | ⟨_, dd, fs, h2, h3, h4⟩
  · cases h
  · have hl := congrArg List.length h4
    rw [List.length_map, List.length_map] at hl
    obtain ⟨v, rfl⟩ : ∃ v, vals = [v] := List.length_eq_one_iff.mp hl.symm
    exact ⟨dd, fs, v, h2, h3, rfl, (List.cons.inj h4).1⟩
theorem attr2 {H : Hp} {d : Option Addr} {x y : Str} {vals : List V} (h : AttrV H d [x, y] vals) : ∃ (dd : Addr) (fs : List (Str × V)) (v u : V), d = some dd ∧ H dd = some (.xd fs) ∧ vals = [v, u] ∧ fs.lookup x = some v ∧ fs.lookup y = some u := by
  rcases h with ⟨h, _⟩ | ⟨_, dd, fs, h2, h3, h4⟩
  · cases h
  · have hl := congrArg List.length h4
    rw [List.length_map, List.length_map] at hl
    obtain ⟨v, r, rfl⟩ : ∃ v r, vals = v :: r := List.exists_cons_of_length_eq_add_one (n := 1) hl.symm
    obtain ⟨u, rfl⟩ : ∃ u, r = [u] := List.length_eq_one_iff.mp (by simpa using hl.symm)
    have h5 := List.cons.inj h4
    exact ⟨dd, fs, v, u, h2, h3, rfl, h5.1, (List.cons.inj h5.2).1⟩
theorem ok_law_attributes (A : All K mg) {F f : Addr} {fd : FuncData} {Cs : List Addr} (Er : ErrO K mg F Cs) (Fu : Fun K "_law_attributes" "_law_attributes" s_law_attributes f fd) : FnS P w K mg base 1 f fd ["_law_e", "_law_name"] (spAttr K Cs) := by
  refine fnS_of Fu sc_law_attributes (fun p vs H Q E h => ?_) (fun cdv A' outer s H0 vs Q E p hr h => ?_)
  · obtain ⟨j, C, w, as, vals, d, rfl, _⟩ := h
    rfl
  · obtain ⟨j, C, w, as, vals, d, rfl, hC, hw, ha, hz, hf, hv, k⟩ := h
    have hp : p ∈ [p] := List.mem_cons_self
    have Xf : XfC K C := (errOne_exc (errTab_get Er.t (List.mem_of_getElem? hC)).1).2
    have no : ∀ {x : Str}, x ∈ attrNames → PySem.W.findIn K (.ref C) x = some none := fun hx => outNo_get Er.no (List.mem_of_getElem? hC) hx
    refine ⟨_, (pss_cons (ps_if (pt_cmpR op_eq (pv 1) pe_str (nomark _)) (pss_one (ps_ret (pe_tup (pa_cons (k_xfP (K := K) rfl hp (pv 0)) (pa_cons (k_xfP (K := K) rfl hp (pv 0)) pa_nil))))) pss_nil)
 (pss_cons (ps_if (pt_cmpR (k_in (K := K) rfl) (pv 1) (pe_tup (pa_cons pe_str (pa_cons pe_str pa_nil))) (by rfl)) (pss_one (ps_ret (pe_tup (pa_cons (k_xfP (K := K) rfl hp (pv 0)) pa_nil)))) pss_nil)
 (pss_cons (ps_if (pt_cmpR (k_in (K := K) rfl) (pv 1) (pe_tup (pa_cons pe_str (pa_cons pe_str pa_nil))) (by rfl)) (pss_one (ps_ret (pe_tup (pa_cons (k_xfP (K := K) rfl hp (pv 0)) pa_nil)))) pss_nil)
 (pss_cons (ps_if (pt_cmpR op_eq (pv 1) pe_str (nomark _)) (pss_one (ps_ret (pe_tup (pa_cons (k_xfP (K := K) rfl hp (pv 0)) (pa_cons (k_xfP (K := K) rfl hp (pv 0)) pa_nil))))) pss_nil)
 (pss_cons (ps_if (pt_cmpR op_eq (pv 1) pe_str (nomark _)) (pss_one (ps_ret (pe_tup (pa_cons (k_xfP (K := K) rfl hp (pv 0)) pa_nil)))) pss_nil)
 (pss_one (ps_ret (pe_ifExp (pt_cmpR op_eq (pv 1) pe_str (nomark _)) (pe_tup (pa_cons (k_xfP (K := K) rfl hp (pv 0)) pa_nil)) (pe_tup pa_nil))))))))), ?_⟩
    have st : Stt [] H0 [] [] H0 := Stt.init H0
    walk_at "begin"
    have hj : j < 14 := (List.getElem?_eq_some_iff.mp hw).1
    clear hC
    match j, hj, hw, ha with
    | 0, _, hw, ha =>
      obtain rfl := (Option.some.inj hw : ("EmptyBoat" : Str) = w)
      obtain rfl := (Option.some.inj ha : ([] : List Str) = as)
      rw [show decide (("EmptyBoat" : Str) = "InvalidNetwork") = false by decide +kernel]
      refine iteF ?_
      walk_at "go"
      refine st_newT K st (by simp) fun tt ntt st => ?_
      refine ⟨tt, _, rfl, .inr (st.pers 0 rfl : TupAt K _ tt _).sq, rfl, rfl, ?_⟩
      rw [show (if false = true then !inV (V.str "EmptyBoat") [V.str "InvalidName", V.str "UnknownCheckpoint"] else inV (V.str "EmptyBoat") [V.str "InvalidName", V.str "UnknownCheckpoint"]) = false by decide +kernel]
      have st := st.forget
      walk_at "go"
      refine iteF ?_
      walk_at "go"
      refine st_newT K st (by simp) fun tt ntt st => ?_
      refine ⟨tt, _, rfl, .inr (st.pers 0 rfl : TupAt K _ tt _).sq, rfl, rfl, ?_⟩
      rw [show (if false = true then !inV (V.str "EmptyBoat") [V.str "InvalidOperation", V.str "InvalidEntry"] else inV (V.str "EmptyBoat") [V.str "InvalidOperation", V.str "InvalidEntry"]) = false by decide +kernel]
      have st := st.forget
      walk_at "go"
      refine iteF ?_
      walk_at "go"
      rw [show decide (("EmptyBoat" : Str) = "ScriptSyntaxError") = false by decide +kernel]
      refine iteF ?_
      walk_at "go"
      rw [show decide (("EmptyBoat" : Str) = "InvalidText") = false by decide +kernel]
      refine iteF ?_
      walk_at "go"
      rw [show decide (("EmptyBoat" : Str) = "InvalidData") = false by decide +kernel]
      refine iteF ?_
      obtain rfl : vals = [] := List.length_eq_zero_iff.mp hv.len
      walk_at "go"
      refine ⟨sz_of (by simp), fun t nt => ?_⟩
      exact k t _ (st.isNone nt) (fun x o h => by rw [upd_ne (ne_of_none (st.same x o h) nt)]; exact st.same x o h) upd_same
    | 1, _, hw, ha =>
      obtain rfl := (Option.some.inj hw : ("InvalidCount" : Str) = w)
      obtain rfl := (Option.some.inj ha : ([] : List Str) = as)
      rw [show decide (("InvalidCount" : Str) = "InvalidNetwork") = false by decide +kernel]
      refine iteF ?_
      walk_at "go"
      refine st_newT K st (by simp) fun tt ntt st => ?_
      refine ⟨tt, _, rfl, .inr (st.pers 0 rfl : TupAt K _ tt _).sq, rfl, rfl, ?_⟩
      rw [show (if false = true then !inV (V.str "InvalidCount") [V.str "InvalidName", V.str "UnknownCheckpoint"] else inV (V.str "InvalidCount") [V.str "InvalidName", V.str "UnknownCheckpoint"]) = false by decide +kernel]
      have st := st.forget
      walk_at "go"
      refine iteF ?_
      walk_at "go"
      refine st_newT K st (by simp) fun tt ntt st => ?_
      refine ⟨tt, _, rfl, .inr (st.pers 0 rfl : TupAt K _ tt _).sq, rfl, rfl, ?_⟩
      rw [show (if false = true then !inV (V.str "InvalidCount") [V.str "InvalidOperation", V.str "InvalidEntry"] else inV (V.str "InvalidCount") [V.str "InvalidOperation", V.str "InvalidEntry"]) = false by decide +kernel]
      have st := st.forget
      walk_at "go"
      refine iteF ?_
      walk_at "go"
      rw [show decide (("InvalidCount" : Str) = "ScriptSyntaxError") = false by decide +kernel]
      refine iteF ?_
      walk_at "go"
      rw [show decide (("InvalidCount" : Str) = "InvalidText") = false by decide +kernel]
      refine iteF ?_
      walk_at "go"
      rw [show decide (("InvalidCount" : Str) = "InvalidData") = false by decide +kernel]
      refine iteF ?_
      obtain rfl : vals = [] := List.length_eq_zero_iff.mp hv.len
      walk_at "go"
      refine ⟨sz_of (by simp), fun t nt => ?_⟩
      exact k t _ (st.isNone nt) (fun x o h => by rw [upd_ne (ne_of_none (st.same x o h) nt)]; exact st.same x o h) upd_same
    | 2, _, hw, ha =>
      obtain rfl := (Option.some.inj hw : ("InvalidData" : Str) = w)
      obtain rfl := (Option.some.inj ha : (["offset"] : List Str) = as)
      rw [show decide (("InvalidData" : Str) = "InvalidNetwork") = false by decide +kernel]
      refine iteF ?_
      walk_at "go"
      refine st_newT K st (by simp) fun tt ntt st => ?_
      refine ⟨tt, _, rfl, .inr (st.pers 0 rfl : TupAt K _ tt _).sq, rfl, rfl, ?_⟩
      rw [show (if false = true then !inV (V.str "InvalidData") [V.str "InvalidName", V.str "UnknownCheckpoint"] else inV (V.str "InvalidData") [V.str "InvalidName", V.str "UnknownCheckpoint"]) = false by decide +kernel]
      have st := st.forget
      walk_at "go"
      refine iteF ?_
      walk_at "go"
      refine st_newT K st (by simp) fun tt ntt st => ?_
      refine ⟨tt, _, rfl, .inr (st.pers 0 rfl : TupAt K _ tt _).sq, rfl, rfl, ?_⟩
      rw [show (if false = true then !inV (V.str "InvalidData") [V.str "InvalidOperation", V.str "InvalidEntry"] else inV (V.str "InvalidData") [V.str "InvalidOperation", V.str "InvalidEntry"]) = false by decide +kernel]
      have st := st.forget
      walk_at "go"
      refine iteF ?_
      walk_at "go"
      rw [show decide (("InvalidData" : Str) = "ScriptSyntaxError") = false by decide +kernel]
      refine iteF ?_
      walk_at "go"
      rw [show decide (("InvalidData" : Str) = "InvalidText") = false by decide +kernel]
      refine iteF ?_
      walk_at "go"
      rw [show decide (("InvalidData" : Str) = "InvalidData") = true by decide +kernel]
      refine iteT ?_
      obtain ⟨dd, fs, v, rfl, hdd, rfl, hl⟩ := attr1 hv
      walk_at "go"
      refine i_xfP ?_
      walk_at "go"
      refine ⟨rfl, C, dd, fs, v, Xf, no (by simp [attrNames]), hz, hf, st.same _ _ hdd, hl, ?_⟩
      walk_at "go"
      refine ⟨sz_of (by simp), fun t nt => ?_⟩
      exact k t _ (st.isNone nt) (fun x o h => by rw [upd_ne (ne_of_none (st.same x o h) nt)]; exact st.same x o h) upd_same
    | 3, _, hw, ha =>
      obtain rfl := (Option.some.inj hw : ("InvalidEntry" : Str) = w)
      obtain rfl := (Option.some.inj ha : (["index"] : List Str) = as)
      rw [show decide (("InvalidEntry" : Str) = "InvalidNetwork") = false by decide +kernel]
      refine iteF ?_
      walk_at "go"
      refine st_newT K st (by simp) fun tt ntt st => ?_
      refine ⟨tt, _, rfl, .inr (st.pers 0 rfl : TupAt K _ tt _).sq, rfl, rfl, ?_⟩
      rw [show (if false = true then !inV (V.str "InvalidEntry") [V.str "InvalidName", V.str "UnknownCheckpoint"] else inV (V.str "InvalidEntry") [V.str "InvalidName", V.str "UnknownCheckpoint"]) = false by decide +kernel]
      have st := st.forget
      walk_at "go"
      refine iteF ?_
      walk_at "go"
      refine st_newT K st (by simp) fun tt ntt st => ?_
      refine ⟨tt, _, rfl, .inr (st.pers 0 rfl : TupAt K _ tt _).sq, rfl, rfl, ?_⟩
      rw [show (if false = true then !inV (V.str "InvalidEntry") [V.str "InvalidOperation", V.str "InvalidEntry"] else inV (V.str "InvalidEntry") [V.str "InvalidOperation", V.str "InvalidEntry"]) = true by decide +kernel]
      have st := st.forget
      walk_at "go"
      refine iteT ?_
      walk_at "go"
      obtain ⟨dd, fs, v, rfl, hdd, rfl, hl⟩ := attr1 hv
      walk_at "go"
      refine i_xfP ?_
      walk_at "go"
      refine ⟨rfl, C, dd, fs, v, Xf, no (by simp [attrNames]), hz, hf, st.same _ _ hdd, hl, ?_⟩
      walk_at "go"
      refine ⟨sz_of (by simp), fun t nt => ?_⟩
      exact k t _ (st.isNone nt) (fun x o h => by rw [upd_ne (ne_of_none (st.same x o h) nt)]; exact st.same x o h) upd_same
    | 4, _, hw, ha =>
      obtain rfl := (Option.some.inj hw : ("InvalidName" : Str) = w)
      obtain rfl := (Option.some.inj ha : (["name"] : List Str) = as)
      rw [show decide (("InvalidName" : Str) = "InvalidNetwork") = false by decide +kernel]
      refine iteF ?_
      walk_at "go"
      refine st_newT K st (by simp) fun tt ntt st => ?_
      refine ⟨tt, _, rfl, .inr (st.pers 0 rfl : TupAt K _ tt _).sq, rfl, rfl, ?_⟩
      rw [show (if false = true then !inV (V.str "InvalidName") [V.str "InvalidName", V.str "UnknownCheckpoint"] else inV (V.str "InvalidName") [V.str "InvalidName", V.str "UnknownCheckpoint"]) = true by decide +kernel]
      have st := st.forget
      walk_at "go"
      refine iteT ?_
      walk_at "go"
      obtain ⟨dd, fs, v, rfl, hdd, rfl, hl⟩ := attr1 hv
      walk_at "go"
      refine i_xfP ?_
      walk_at "go"
      refine ⟨rfl, C, dd, fs, v, Xf, no (by simp [attrNames]), hz, hf, st.same _ _ hdd, hl, ?_⟩
      walk_at "go"
      refine ⟨sz_of (by simp), fun t nt => ?_⟩
      exact k t _ (st.isNone nt) (fun x o h => by rw [upd_ne (ne_of_none (st.same x o h) nt)]; exact st.same x o h) upd_same
    | 5, _, hw, ha =>
      obtain rfl := (Option.some.inj hw : ("InvalidNetwork" : Str) = w)
      obtain rfl := (Option.some.inj ha : (["station", "seat"] : List Str) = as)
      rw [show decide (("InvalidNetwork" : Str) = "InvalidNetwork") = true by decide +kernel]
      refine iteT ?_
      obtain ⟨dd, fs, v, u, rfl, hdd, rfl, hl, hl2⟩ := attr2 hv
      walk_at "go"
      refine i_xfP ?_
      walk_at "go"
      refine ⟨rfl, C, dd, fs, v, Xf, no (by simp [attrNames]), hz, hf, st.same _ _ hdd, hl, ?_⟩
      walk_at "go"
      refine i_xfP ?_
      walk_at "go"
      refine ⟨rfl, C, dd, fs, u, Xf, no (by simp [attrNames]), hz, hf, st.same _ _ hdd, hl2, ?_⟩
      walk_at "go"
      refine ⟨sz_of (by simp), fun t nt => ?_⟩
      exact k t _ (st.isNone nt) (fun x o h => by rw [upd_ne (ne_of_none (st.same x o h) nt)]; exact st.same x o h) upd_same
    | 6, _, hw, ha =>
      obtain rfl := (Option.some.inj hw : ("InvalidOperation" : Str) = w)
      obtain rfl := (Option.some.inj ha : (["index"] : List Str) = as)
      rw [show decide (("InvalidOperation" : Str) = "InvalidNetwork") = false by decide +kernel]
      refine iteF ?_
      walk_at "go"
      refine st_newT K st (by simp) fun tt ntt st => ?_
      refine ⟨tt, _, rfl, .inr (st.pers 0 rfl : TupAt K _ tt _).sq, rfl, rfl, ?_⟩
      rw [show (if false = true then !inV (V.str "InvalidOperation") [V.str "InvalidName", V.str "UnknownCheckpoint"] else inV (V.str "InvalidOperation") [V.str "InvalidName", V.str "UnknownCheckpoint"]) = false by decide +kernel]
      have st := st.forget
      walk_at "go"
      refine iteF ?_
      walk_at "go"
      refine st_newT K st (by simp) fun tt ntt st => ?_
      refine ⟨tt, _, rfl, .inr (st.pers 0 rfl : TupAt K _ tt _).sq, rfl, rfl, ?_⟩
      rw [show (if false = true then !inV (V.str "InvalidOperation") [V.str "InvalidOperation", V.str "InvalidEntry"] else inV (V.str "InvalidOperation") [V.str "InvalidOperation", V.str "InvalidEntry"]) = true by decide +kernel]
      have st := st.forget
      walk_at "go"
      refine iteT ?_
      walk_at "go"
      obtain ⟨dd, fs, v, rfl, hdd, rfl, hl⟩ := attr1 hv
      walk_at "go"
      refine i_xfP ?_
      walk_at "go"
      refine ⟨rfl, C, dd, fs, v, Xf, no (by simp [attrNames]), hz, hf, st.same _ _ hdd, hl, ?_⟩
      walk_at "go"
      refine ⟨sz_of (by simp), fun t nt => ?_⟩
      exact k t _ (st.isNone nt) (fun x o h => by rw [upd_ne (ne_of_none (st.same x o h) nt)]; exact st.same x o h) upd_same
    | 7, _, hw, ha =>
      obtain rfl := (Option.some.inj hw : ("InvalidState" : Str) = w)
      obtain rfl := (Option.some.inj ha : ([] : List Str) = as)
      rw [show decide (("InvalidState" : Str) = "InvalidNetwork") = false by decide +kernel]
      refine iteF ?_
      walk_at "go"
      refine st_newT K st (by simp) fun tt ntt st => ?_
      refine ⟨tt, _, rfl, .inr (st.pers 0 rfl : TupAt K _ tt _).sq, rfl, rfl, ?_⟩
      rw [show (if false = true then !inV (V.str "InvalidState") [V.str "InvalidName", V.str "UnknownCheckpoint"] else inV (V.str "InvalidState") [V.str "InvalidName", V.str "UnknownCheckpoint"]) = false by decide +kernel]
      have st := st.forget
      walk_at "go"
      refine iteF ?_
      walk_at "go"
      refine st_newT K st (by simp) fun tt ntt st => ?_
      refine ⟨tt, _, rfl, .inr (st.pers 0 rfl : TupAt K _ tt _).sq, rfl, rfl, ?_⟩
      rw [show (if false = true then !inV (V.str "InvalidState") [V.str "InvalidOperation", V.str "InvalidEntry"] else inV (V.str "InvalidState") [V.str "InvalidOperation", V.str "InvalidEntry"]) = false by decide +kernel]
      have st := st.forget
      walk_at "go"
      refine iteF ?_
      walk_at "go"
      rw [show decide (("InvalidState" : Str) = "ScriptSyntaxError") = false by decide +kernel]
      refine iteF ?_
      walk_at "go"
      rw [show decide (("InvalidState" : Str) = "InvalidText") = false by decide +kernel]
      refine iteF ?_
      walk_at "go"
      rw [show decide (("InvalidState" : Str) = "InvalidData") = false by decide +kernel]
      refine iteF ?_
      obtain rfl : vals = [] := List.length_eq_zero_iff.mp hv.len
      walk_at "go"
      refine ⟨sz_of (by simp), fun t nt => ?_⟩
      exact k t _ (st.isNone nt) (fun x o h => by rw [upd_ne (ne_of_none (st.same x o h) nt)]; exact st.same x o h) upd_same
    | 8, _, hw, ha =>
      obtain rfl := (Option.some.inj hw : ("InvalidText" : Str) = w)
      obtain rfl := (Option.some.inj ha : (["row"] : List Str) = as)
      rw [show decide (("InvalidText" : Str) = "InvalidNetwork") = false by decide +kernel]
      refine iteF ?_
      walk_at "go"
      refine st_newT K st (by simp) fun tt ntt st => ?_
      refine ⟨tt, _, rfl, .inr (st.pers 0 rfl : TupAt K _ tt _).sq, rfl, rfl, ?_⟩
      rw [show (if false = true then !inV (V.str "InvalidText") [V.str "InvalidName", V.str "UnknownCheckpoint"] else inV (V.str "InvalidText") [V.str "InvalidName", V.str "UnknownCheckpoint"]) = false by decide +kernel]
      have st := st.forget
      walk_at "go"
      refine iteF ?_
      walk_at "go"
      refine st_newT K st (by simp) fun tt ntt st => ?_
      refine ⟨tt, _, rfl, .inr (st.pers 0 rfl : TupAt K _ tt _).sq, rfl, rfl, ?_⟩
      rw [show (if false = true then !inV (V.str "InvalidText") [V.str "InvalidOperation", V.str "InvalidEntry"] else inV (V.str "InvalidText") [V.str "InvalidOperation", V.str "InvalidEntry"]) = false by decide +kernel]
      have st := st.forget
      walk_at "go"
      refine iteF ?_
      walk_at "go"
      rw [show decide (("InvalidText" : Str) = "ScriptSyntaxError") = false by decide +kernel]
      refine iteF ?_
      walk_at "go"
      rw [show decide (("InvalidText" : Str) = "InvalidText") = true by decide +kernel]
      refine iteT ?_
      obtain ⟨dd, fs, v, rfl, hdd, rfl, hl⟩ := attr1 hv
      walk_at "go"
      refine i_xfP ?_
      walk_at "go"
      refine ⟨rfl, C, dd, fs, v, Xf, no (by simp [attrNames]), hz, hf, st.same _ _ hdd, hl, ?_⟩
      walk_at "go"
      refine ⟨sz_of (by simp), fun t nt => ?_⟩
      exact k t _ (st.isNone nt) (fun x o h => by rw [upd_ne (ne_of_none (st.same x o h) nt)]; exact st.same x o h) upd_same
    | 9, _, hw, ha =>
      obtain rfl := (Option.some.inj hw : ("ScriptSyntaxError" : Str) = w)
      obtain rfl := (Option.some.inj ha : (["row", "column"] : List Str) = as)
      rw [show decide (("ScriptSyntaxError" : Str) = "InvalidNetwork") = false by decide +kernel]
      refine iteF ?_
      walk_at "go"
      refine st_newT K st (by simp) fun tt ntt st => ?_
      refine ⟨tt, _, rfl, .inr (st.pers 0 rfl : TupAt K _ tt _).sq, rfl, rfl, ?_⟩
      rw [show (if false = true then !inV (V.str "ScriptSyntaxError") [V.str "InvalidName", V.str "UnknownCheckpoint"] else inV (V.str "ScriptSyntaxError") [V.str "InvalidName", V.str "UnknownCheckpoint"]) = false by decide +kernel]
      have st := st.forget
      walk_at "go"
      refine iteF ?_
      walk_at "go"
      refine st_newT K st (by simp) fun tt ntt st => ?_
      refine ⟨tt, _, rfl, .inr (st.pers 0 rfl : TupAt K _ tt _).sq, rfl, rfl, ?_⟩
      rw [show (if false = true then !inV (V.str "ScriptSyntaxError") [V.str "InvalidOperation", V.str "InvalidEntry"] else inV (V.str "ScriptSyntaxError") [V.str "InvalidOperation", V.str "InvalidEntry"]) = false by decide +kernel]
      have st := st.forget
      walk_at "go"
      refine iteF ?_
      walk_at "go"
      rw [show decide (("ScriptSyntaxError" : Str) = "ScriptSyntaxError") = true by decide +kernel]
      refine iteT ?_
      obtain ⟨dd, fs, v, u, rfl, hdd, rfl, hl, hl2⟩ := attr2 hv
      walk_at "go"
      refine i_xfP ?_
      walk_at "go"
      refine ⟨rfl, C, dd, fs, v, Xf, no (by simp [attrNames]), hz, hf, st.same _ _ hdd, hl, ?_⟩
      walk_at "go"
      refine i_xfP ?_
      walk_at "go"
      refine ⟨rfl, C, dd, fs, u, Xf, no (by simp [attrNames]), hz, hf, st.same _ _ hdd, hl2, ?_⟩
      walk_at "go"
      refine ⟨sz_of (by simp), fun t nt => ?_⟩
      exact k t _ (st.isNone nt) (fun x o h => by rw [upd_ne (ne_of_none (st.same x o h) nt)]; exact st.same x o h) upd_same
    | 10, _, hw, ha =>
      obtain rfl := (Option.some.inj hw : ("UnknownCheckpoint" : Str) = w)
      obtain rfl := (Option.some.inj ha : (["name"] : List Str) = as)
      rw [show decide (("UnknownCheckpoint" : Str) = "InvalidNetwork") = false by decide +kernel]
      refine iteF ?_
      walk_at "go"
      refine st_newT K st (by simp) fun tt ntt st => ?_
      refine ⟨tt, _, rfl, .inr (st.pers 0 rfl : TupAt K _ tt _).sq, rfl, rfl, ?_⟩
      rw [show (if false = true then !inV (V.str "UnknownCheckpoint") [V.str "InvalidName", V.str "UnknownCheckpoint"] else inV (V.str "UnknownCheckpoint") [V.str "InvalidName", V.str "UnknownCheckpoint"]) = true by decide +kernel]
      have st := st.forget
      walk_at "go"
      refine iteT ?_
      walk_at "go"
      obtain ⟨dd, fs, v, rfl, hdd, rfl, hl⟩ := attr1 hv
      walk_at "go"
      refine i_xfP ?_
      walk_at "go"
      refine ⟨rfl, C, dd, fs, v, Xf, no (by simp [attrNames]), hz, hf, st.same _ _ hdd, hl, ?_⟩
      walk_at "go"
      refine ⟨sz_of (by simp), fun t nt => ?_⟩
      exact k t _ (st.isNone nt) (fun x o h => by rw [upd_ne (ne_of_none (st.same x o h) nt)]; exact st.same x o h) upd_same
    | 11, _, hw, ha =>
      obtain rfl := (Option.some.inj hw : ("UnknownPassenger" : Str) = w)
      obtain rfl := (Option.some.inj ha : ([] : List Str) = as)
      rw [show decide (("UnknownPassenger" : Str) = "InvalidNetwork") = false by decide +kernel]
      refine iteF ?_
      walk_at "go"
      refine st_newT K st (by simp) fun tt ntt st => ?_
      refine ⟨tt, _, rfl, .inr (st.pers 0 rfl : TupAt K _ tt _).sq, rfl, rfl, ?_⟩
      rw [show (if false = true then !inV (V.str "UnknownPassenger") [V.str "InvalidName", V.str "UnknownCheckpoint"] else inV (V.str "UnknownPassenger") [V.str "InvalidName", V.str "UnknownCheckpoint"]) = false by decide +kernel]
      have st := st.forget
      walk_at "go"
      refine iteF ?_
      walk_at "go"
      refine st_newT K st (by simp) fun tt ntt st => ?_
      refine ⟨tt, _, rfl, .inr (st.pers 0 rfl : TupAt K _ tt _).sq, rfl, rfl, ?_⟩
      rw [show (if false = true then !inV (V.str "UnknownPassenger") [V.str "InvalidOperation", V.str "InvalidEntry"] else inV (V.str "UnknownPassenger") [V.str "InvalidOperation", V.str "InvalidEntry"]) = false by decide +kernel]
      have st := st.forget
      walk_at "go"
      refine iteF ?_
      walk_at "go"
      rw [show decide (("UnknownPassenger" : Str) = "ScriptSyntaxError") = false by decide +kernel]
      refine iteF ?_
      walk_at "go"
      rw [show decide (("UnknownPassenger" : Str) = "InvalidText") = false by decide +kernel]
      refine iteF ?_
      walk_at "go"
      rw [show decide (("UnknownPassenger" : Str) = "InvalidData") = false by decide +kernel]
      refine iteF ?_
      obtain rfl : vals = [] := List.length_eq_zero_iff.mp hv.len
      walk_at "go"
      refine ⟨sz_of (by simp), fun t nt => ?_⟩
      exact k t _ (st.isNone nt) (fun x o h => by rw [upd_ne (ne_of_none (st.same x o h) nt)]; exact st.same x o h) upd_same
    | 12, _, hw, ha =>
      obtain rfl := (Option.some.inj hw : ("UnknownSeat" : Str) = w)
      obtain rfl := (Option.some.inj ha : ([] : List Str) = as)
      rw [show decide (("UnknownSeat" : Str) = "InvalidNetwork") = false by decide +kernel]
      refine iteF ?_
      walk_at "go"
      refine st_newT K st (by simp) fun tt ntt st => ?_
      refine ⟨tt, _, rfl, .inr (st.pers 0 rfl : TupAt K _ tt _).sq, rfl, rfl, ?_⟩
      rw [show (if false = true then !inV (V.str "UnknownSeat") [V.str "InvalidName", V.str "UnknownCheckpoint"] else inV (V.str "UnknownSeat") [V.str "InvalidName", V.str "UnknownCheckpoint"]) = false by decide +kernel]
      have st := st.forget
      walk_at "go"
      refine iteF ?_
      walk_at "go"
      refine st_newT K st (by simp) fun tt ntt st => ?_
      refine ⟨tt, _, rfl, .inr (st.pers 0 rfl : TupAt K _ tt _).sq, rfl, rfl, ?_⟩
      rw [show (if false = true then !inV (V.str "UnknownSeat") [V.str "InvalidOperation", V.str "InvalidEntry"] else inV (V.str "UnknownSeat") [V.str "InvalidOperation", V.str "InvalidEntry"]) = false by decide +kernel]
      have st := st.forget
      walk_at "go"
      refine iteF ?_
      walk_at "go"
      rw [show decide (("UnknownSeat" : Str) = "ScriptSyntaxError") = false by decide +kernel]
      refine iteF ?_
      walk_at "go"
      rw [show decide (("UnknownSeat" : Str) = "InvalidText") = false by decide +kernel]
      refine iteF ?_
      walk_at "go"
      rw [show decide (("UnknownSeat" : Str) = "InvalidData") = false by decide +kernel]
      refine iteF ?_
      obtain rfl : vals = [] := List.length_eq_zero_iff.mp hv.len
      walk_at "go"
      refine ⟨sz_of (by simp), fun t nt => ?_⟩
      exact k t _ (st.isNone nt) (fun x o h => by rw [upd_ne (ne_of_none (st.same x o h) nt)]; exact st.same x o h) upd_same
    | 13, _, hw, ha =>
      obtain rfl := (Option.some.inj hw : ("UnknownStation" : Str) = w)
      obtain rfl := (Option.some.inj ha : ([] : List Str) = as)
      rw [show decide (("UnknownStation" : Str) = "InvalidNetwork") = false by decide +kernel]
      refine iteF ?_
      walk_at "go"
      refine st_newT K st (by simp) fun tt ntt st => ?_
      refine ⟨tt, _, rfl, .inr (st.pers 0 rfl : TupAt K _ tt _).sq, rfl, rfl, ?_⟩
      rw [show (if false = true then !inV (V.str "UnknownStation") [V.str "InvalidName", V.str "UnknownCheckpoint"] else inV (V.str "UnknownStation") [V.str "InvalidName", V.str "UnknownCheckpoint"]) = false by decide +kernel]
      have st := st.forget
      walk_at "go"
      refine iteF ?_
      walk_at "go"
      refine st_newT K st (by simp) fun tt ntt st => ?_
      refine ⟨tt, _, rfl, .inr (st.pers 0 rfl : TupAt K _ tt _).sq, rfl, rfl, ?_⟩
      rw [show (if false = true then !inV (V.str "UnknownStation") [V.str "InvalidOperation", V.str "InvalidEntry"] else inV (V.str "UnknownStation") [V.str "InvalidOperation", V.str "InvalidEntry"]) = false by decide +kernel]
      have st := st.forget
      walk_at "go"
      refine iteF ?_
      walk_at "go"
      rw [show decide (("UnknownStation" : Str) = "ScriptSyntaxError") = false by decide +kernel]
      refine iteF ?_
      walk_at "go"
      rw [show decide (("UnknownStation" : Str) = "InvalidText") = false by decide +kernel]
      refine iteF ?_
      walk_at "go"
      rw [show decide (("UnknownStation" : Str) = "InvalidData") = false by decide +kernel]
      refine iteF ?_
      obtain rfl : vals = [] := List.length_eq_zero_iff.mp hv.len
      walk_at "go"
      refine ⟨sz_of (by simp), fun t nt => ?_⟩
      exact k t _ (st.isNone nt) (fun x o h => by rw [upd_ne (ne_of_none (st.same x o h) nt)]; exact st.same x o h) upd_same
end
abbrev outCx (X : Cx) (g : Addr) (cdg : Value) (s : Shared) (H : Hp) : Cx := (cxOf C8.CX0 X.prog X.w X.K X.mg X.base ["_law_work", "_law_e", "_law_kinds", "_law_names"] "_law_outcome" (defScope s_law_outcome) g cdg X.A X.stack s H C8.E0).nox
/-- what an exception that it catches must be like -/
def OutEch (K : PySem.W.Frag) (Cs : List Addr) (Q : VK) : XK := fun cls d H1 => ∃ (j : Nat) (C : Addr) (w : Str) (as : List Str) (vals : List V), Cs[j]? = some C ∧ cls = .ref C ∧ outNames[j]? = some w ∧ outAttrs[j]? = some as ∧ AttrV H1 d as vals ∧
  ∀ p H2, Same H1 H2 → TupAt K H2 p (.str w :: vals) → Q (.ref p) H2
/-- the state at the suite's start -/
def OutSt (K : PySem.W.Frag) (Cs : List Addr) (x : Addr) (cls : Value) (d : Option Addr) : TS := fun D σ H => ∃ σ0 : L2.St, σ0.length = 4 ∧ σ = σ0.set 1 (some (.ref x)) ∧ OutEch K Cs D.rt cls d H
/-- what _law_outcome makes of a call; tl: how the call is read -/
def TOut (K : PySem.W.Frag) (Cs : List Addr) : (XK → Hp → VK → Prop) → Hp → VK → Prop := fun tl H Q => tl (OutEch K Cs Q) H Q
theorem outNames_nd : outNames.Nodup := by decide +kernel
theorem gives_law_outcome {X : Cx} (A : All X.K X.mg) {F : Addr} {Cs : List Addr} (Er : ErrO X.K X.mg F Cs) {k : Nat} (hr : Room (k + 2) X.A) {g : Addr} {cdg : Value} {q : Str} :
    LamX.GivesTo X ["_law_work", "_law_e", "_law_kinds", "_law_names"] "_law_outcome" (defScope s_law_outcome) g cdg (defBody s_law_outcome) "_law_work" q (TOut X.K Cs) := by
  intro f c0 s H Q tl act hc h
  have hn := Er.n
  have ht := Er.t
  have hnd := Er.nd
  obtain ⟨fa, fda, Fa, m_attr⟩ := A.d_law_attributes.ex
  have kp_attr := Fa.kp
  have bi_attr : L2.Binds X.K fda ["_law_e", "_law_name"] [] := Fa.binds (ps := ["_law_e", "_law_name"]) (fun _ _ _ _ _ _ us hl => match us, hl with | [_, _], _ => rfl)
  have Fs : FnS X.prog X.w X.K X.mg X.base 1 fa fda ["_law_e", "_law_name"] (spAttr X.K Cs) := ok_law_attributes A Er Fa
  unfold outNames at hn
  obtain ⟨c_EmptyBoat, Cs1, rfl, m_EmptyBoat, hn⟩ := hn.uncons
  obtain ⟨c_InvalidCount, Cs2, rfl, m_InvalidCount, hn⟩ := hn.uncons
  obtain ⟨c_InvalidData, Cs3, rfl, m_InvalidData, hn⟩ := hn.uncons
  obtain ⟨c_InvalidEntry, Cs4, rfl, m_InvalidEntry, hn⟩ := hn.uncons
  obtain ⟨c_InvalidName, Cs5, rfl, m_InvalidName, hn⟩ := hn.uncons
  obtain ⟨c_InvalidNetwork, Cs6, rfl, m_InvalidNetwork, hn⟩ := hn.uncons
  obtain ⟨c_InvalidOperation, Cs7, rfl, m_InvalidOperation, hn⟩ := hn.uncons
  obtain ⟨c_InvalidState, Cs8, rfl, m_InvalidState, hn⟩ := hn.uncons
  obtain ⟨c_InvalidText, Cs9, rfl, m_InvalidText, hn⟩ := hn.uncons
  obtain ⟨c_ScriptSyntaxError, Cs10, rfl, m_ScriptSyntaxError, hn⟩ := hn.uncons
  obtain ⟨c_UnknownCheckpoint, Cs11, rfl, m_UnknownCheckpoint, hn⟩ := hn.uncons
  obtain ⟨c_UnknownPassenger, Cs12, rfl, m_UnknownPassenger, hn⟩ := hn.uncons
  obtain ⟨c_UnknownSeat, Cs13, rfl, m_UnknownSeat, hn⟩ := hn.uncons
  obtain ⟨c_UnknownStation, Cs14, rfl, m_UnknownStation, hn⟩ := hn.uncons
  cases hn
  have hbody : ∀ (W : WX) (pn : List (Addr × Obj)) (xe : Value → Shared → Prop) (p1 p2 p3 : Pos), Takes ((outCx X g cdg s H).tr pn xe) W →
      PSs ((outCx X g cdg s H).tr pn xe) [.Return (some (.Call (.Name "_law_work" p1) [] [] p2)) p3]
        (fun D σ H => ∃ Ech : XK, (∀ cls d σ1 H1, σ1.length = 4 → Ech cls d H1 → W cls d σ1 H1) ∧ σ[0]? = some (some (.ref f)) ∧ H c0 = some (LamX.CodeO c0 q) ∧ tl Ech H D.rt) := fun W pn xe p1 p2 p3 tk => by
    refine ⟨fun pins s1 σ H1 D I h1 => ?_⟩
    obtain ⟨Ech, hW, z1, z2, z3⟩ := h1
    have hp := act _ pn xe Ech p1 p2 (takes_len tk) (fun cls d σ1 H1 hE hl => hW cls d σ1 H1 hl hE)
    exact (pss_one (ps_ret (pos := p3) hp)).run pins s1 σ H1 D I ⟨z1, z2, z3⟩
  generalize hCs : [c_EmptyBoat, c_InvalidCount, c_InvalidData, c_InvalidEntry, c_InvalidName, c_InvalidNetwork, c_InvalidOperation, c_InvalidState, c_InvalidText, c_ScriptSyntaxError, c_UnknownCheckpoint, c_UnknownPassenger, c_UnknownSeat, c_UnknownStation] = Cs at ht hnd h Fs
  have hd : Room 1 (X.A.deeper (envOfC "_law_outcome" (defScope s_law_outcome) s.heap.objs.size g cdg)) := Room.deeper (hr.mono (by omega)) _
  have rm : ∀ x pn, RoomH 1 ((outCx X g cdg s H).suite x pn).A := fun _ _ => ⟨hd.dp, hd.un⟩
  have hs : ∀ (x : Addr) (ob : Obj) (cls : Value) (d : Option Addr) (more : List (Addr × Obj)), Zc cls d ob → (∃ vs, ob.data = .fields vs) → ∃ t : TS,
      PSs ((outCx X g cdg s H).suite x ((x, ob) :: more)) (trySuite (defBody s_law_outcome)) t ∧ ∀ (D : Ends) (σ1 : L2.St) (H1 : Hp), OutSt X.K Cs x cls d D σ1 H1 → t D σ1 H1 := by
    clear act hbody h hc
    intro x ob cls d more hz hf
    have rm := rm x ((x, ob) :: more)
    refine ⟨_, (pss_cons (ps_set (i := 2) sc_law_outcome.nd rfl (Or.inl rfl) (pe_lst (pa_cons (pe_callB (X := (outCx X g cdg s H).suite x ((x, ob) :: more)) (id := "isinstance") (call_isX hz hf) (by rfl) A.b_isinstance (by decide +kernel) (pa_cons (pv 1) (pa_cons (pe_glob (X := (outCx X g cdg s H).suite x ((x, ob) :: more)) (x := "EmptyBoat") (v := .ref c_EmptyBoat) (by rfl) m_EmptyBoat (by rfl)) pa_nil))) (pa_cons (pe_callB (X := (outCx X g cdg s H).suite x ((x, ob) :: more)) (id := "isinstance") (call_isX hz hf) (by rfl) A.b_isinstance (by decide +kernel) (pa_cons (pv 1) (pa_cons (pe_glob (X := (outCx X g cdg s H).suite x ((x, ob) :: more)) (x := "InvalidCount") (v := .ref c_InvalidCount) (by rfl) m_InvalidCount (by rfl)) pa_nil))) (pa_cons (pe_callB (X := (outCx X g cdg s H).suite x ((x, ob) :: more)) (id := "isinstance") (call_isX hz hf) (by rfl) A.b_isinstance (by decide +kernel) (pa_cons (pv 1) (pa_cons (pe_glob (X := (outCx X g cdg s H).suite x ((x, ob) :: more)) (x := "InvalidData") (v := .ref c_InvalidData) (by rfl) m_InvalidData (by rfl)) pa_nil))) pa_nil)))))
 (pss_cons (ps_set (i := 2) sc_law_outcome.nd rfl (Or.inl rfl) (pe_op op_cat (pv 2) (pe_lst (pa_cons (pe_callB (X := (outCx X g cdg s H).suite x ((x, ob) :: more)) (id := "isinstance") (call_isX hz hf) (by rfl) A.b_isinstance (by decide +kernel) (pa_cons (pv 1) (pa_cons (pe_glob (X := (outCx X g cdg s H).suite x ((x, ob) :: more)) (x := "InvalidEntry") (v := .ref c_InvalidEntry) (by rfl) m_InvalidEntry (by rfl)) pa_nil))) (pa_cons (pe_callB (X := (outCx X g cdg s H).suite x ((x, ob) :: more)) (id := "isinstance") (call_isX hz hf) (by rfl) A.b_isinstance (by decide +kernel) (pa_cons (pv 1) (pa_cons (pe_glob (X := (outCx X g cdg s H).suite x ((x, ob) :: more)) (x := "InvalidName") (v := .ref c_InvalidName) (by rfl) m_InvalidName (by rfl)) pa_nil))) (pa_cons (pe_callB (X := (outCx X g cdg s H).suite x ((x, ob) :: more)) (id := "isinstance") (call_isX hz hf) (by rfl) A.b_isinstance (by decide +kernel) (pa_cons (pv 1) (pa_cons (pe_glob (X := (outCx X g cdg s H).suite x ((x, ob) :: more)) (x := "InvalidNetwork") (v := .ref c_InvalidNetwork) (by rfl) m_InvalidNetwork (by rfl)) pa_nil))) pa_nil))))))
 (pss_cons (ps_set (i := 2) sc_law_outcome.nd rfl (Or.inl rfl) (pe_op op_cat (pv 2) (pe_lst (pa_cons (pe_callB (X := (outCx X g cdg s H).suite x ((x, ob) :: more)) (id := "isinstance") (call_isX hz hf) (by rfl) A.b_isinstance (by decide +kernel) (pa_cons (pv 1) (pa_cons (pe_glob (X := (outCx X g cdg s H).suite x ((x, ob) :: more)) (x := "InvalidOperation") (v := .ref c_InvalidOperation) (by rfl) m_InvalidOperation (by rfl)) pa_nil))) (pa_cons (pe_callB (X := (outCx X g cdg s H).suite x ((x, ob) :: more)) (id := "isinstance") (call_isX hz hf) (by rfl) A.b_isinstance (by decide +kernel) (pa_cons (pv 1) (pa_cons (pe_glob (X := (outCx X g cdg s H).suite x ((x, ob) :: more)) (x := "InvalidState") (v := .ref c_InvalidState) (by rfl) m_InvalidState (by rfl)) pa_nil))) (pa_cons (pe_callB (X := (outCx X g cdg s H).suite x ((x, ob) :: more)) (id := "isinstance") (call_isX hz hf) (by rfl) A.b_isinstance (by decide +kernel) (pa_cons (pv 1) (pa_cons (pe_glob (X := (outCx X g cdg s H).suite x ((x, ob) :: more)) (x := "InvalidText") (v := .ref c_InvalidText) (by rfl) m_InvalidText (by rfl)) pa_nil))) pa_nil))))))
 (pss_cons (ps_set (i := 2) sc_law_outcome.nd rfl (Or.inl rfl) (pe_op op_cat (pv 2) (pe_lst (pa_cons (pe_callB (X := (outCx X g cdg s H).suite x ((x, ob) :: more)) (id := "isinstance") (call_isX hz hf) (by rfl) A.b_isinstance (by decide +kernel) (pa_cons (pv 1) (pa_cons (pe_glob (X := (outCx X g cdg s H).suite x ((x, ob) :: more)) (x := "ScriptSyntaxError") (v := .ref c_ScriptSyntaxError) (by rfl) m_ScriptSyntaxError (by rfl)) pa_nil))) (pa_cons (pe_callB (X := (outCx X g cdg s H).suite x ((x, ob) :: more)) (id := "isinstance") (call_isX hz hf) (by rfl) A.b_isinstance (by decide +kernel) (pa_cons (pv 1) (pa_cons (pe_glob (X := (outCx X g cdg s H).suite x ((x, ob) :: more)) (x := "UnknownCheckpoint") (v := .ref c_UnknownCheckpoint) (by rfl) m_UnknownCheckpoint (by rfl)) pa_nil))) pa_nil)))))
 (pss_cons (ps_set (i := 2) sc_law_outcome.nd rfl (Or.inl rfl) (pe_op op_cat (pv 2) (pe_lst (pa_cons (pe_callB (X := (outCx X g cdg s H).suite x ((x, ob) :: more)) (id := "isinstance") (call_isX hz hf) (by rfl) A.b_isinstance (by decide +kernel) (pa_cons (pv 1) (pa_cons (pe_glob (X := (outCx X g cdg s H).suite x ((x, ob) :: more)) (x := "UnknownPassenger") (v := .ref c_UnknownPassenger) (by rfl) m_UnknownPassenger (by rfl)) pa_nil))) (pa_cons (pe_callB (X := (outCx X g cdg s H).suite x ((x, ob) :: more)) (id := "isinstance") (call_isX hz hf) (by rfl) A.b_isinstance (by decide +kernel) (pa_cons (pv 1) (pa_cons (pe_glob (X := (outCx X g cdg s H).suite x ((x, ob) :: more)) (x := "UnknownSeat") (v := .ref c_UnknownSeat) (by rfl) m_UnknownSeat (by rfl)) pa_nil))) (pa_cons (pe_callB (X := (outCx X g cdg s H).suite x ((x, ob) :: more)) (id := "isinstance") (call_isX hz hf) (by rfl) A.b_isinstance (by decide +kernel) (pa_cons (pv 1) (pa_cons (pe_glob (X := (outCx X g cdg s H).suite x ((x, ob) :: more)) (x := "UnknownStation") (v := .ref c_UnknownStation) (by rfl) m_UnknownStation (by rfl)) pa_nil))) pa_nil))))))
 (pss_cons (ps_set (i := 3) sc_law_outcome.nd rfl (Or.inl rfl) (pe_lst (pa_cons pe_str (pa_cons pe_str (pa_cons pe_str (pa_cons pe_str (pa_cons pe_str (pa_cons pe_str pa_nil))))))))
 (pss_cons (ps_set (i := 3) sc_law_outcome.nd rfl (Or.inl rfl) (pe_op op_cat (pv 3) (pe_lst (pa_cons pe_str (pa_cons pe_str (pa_cons pe_str (pa_cons pe_str (pa_cons pe_str pa_nil))))))))
 (pss_cons (ps_set (i := 3) sc_law_outcome.nd rfl (Or.inl rfl) (pe_op op_cat (pv 3) (pe_lst (pa_cons pe_str (pa_cons pe_str (pa_cons pe_str pa_nil))))))
 (pss_cons (ps_if (PW.pt (pw_or (pt_cmpR op_ne (pe_bm PySem.F.plainAttrs_list PySem.F.slot_list_count PySem.F.type_list_count mt_countF (pv 2) (pa_cons pe_bl pa_nil)) pe_int (nomark _)) (pw_or1 (pt_not (pt_val (pe_callB (X := (outCx X g cdg s H).suite x ((x, ob) :: more)) (id := "isinstance") (call_isX hz hf) (by rfl) A.b_isinstance (by decide +kernel) (pa_cons (pv 1) (pa_cons (pe_bltn (X := (outCx X g cdg s H).suite x ((x, ob) :: more)) (x := "ValueError") (v := .ty "ValueError") (by rfl) A.b_ValueError (by rfl) (by rfl)) pa_nil)))))))) (pss_one (ps_ret pe_str)) pss_nil)
 (pss_one (ps_ret (pe_op op_catA (pe_tup (pa_cons (pe_ix ix_list (pv 3) (pe_bm PySem.F.plainAttrs_list PySem.F.slot_list_index PySem.F.type_list_index mt_index (pv 2) (pa_cons pe_bl pa_nil)) (fun _ _ => rfl)) pa_nil)) (pe_callP (X := (outCx X g cdg s H).suite x ((x, ob) :: more)) Fs rm List.mem_cons_self (by rfl) m_attr kp_attr bi_attr (pa_cons (pv 1) (pa_cons (pe_ix ix_list (pv 3) (pe_bm PySem.F.plainAttrs_list PySem.F.slot_list_index PySem.F.type_list_index mt_index (pv 2) (pa_cons pe_bl pa_nil)) (fun _ _ => rfl)) pa_nil))))))))))))))), fun D σ1 H1 hE => ?_⟩
    obtain ⟨σ0, hl, rfl, j, C, wd, as, vals, hj, rfl, hw, has, hav, kE⟩ := hE
    have hmem := List.mem_of_getElem? hj
    obtain ⟨t1, t2, t3, t4⟩ := errTab_get ht hmem
    obtain ⟨s0, s1, s2, s3, rfl⟩ : ∃ s0 s1 s2 s3, σ0 = [s0, s1, s2, s3] := by
      match σ0, hl with
      | [s0, s1, s2, s3], _ => exact ⟨s0, s1, s2, s3, rfl⟩
    walk_at "begin"
    have he := (errOne_exc t1).1
    have hX : ∀ H2, Same H1 H2 → XDict H2 d := fun H2 t => (hav.ext t).xd
    have st : Stt [] H1 [] [] H1 := Stt.init H1
    refine i_isX (hX _ st.same) he (t4 c_EmptyBoat (by rw [← hCs]; simp)) ?_
    walk_at "go"
    refine i_isX (hX _ st.same) he (t4 c_InvalidCount (by rw [← hCs]; simp)) ?_
    walk_at "go"
    refine i_isX (hX _ st.same) he (t4 c_InvalidData (by rw [← hCs]; simp)) ?_
    walk_at "go"
    refine st_newL st (by simp) fun l0 nl0 st => ?_
    walk_at "go"
    refine i_isX (hX _ st.same) he (t4 c_InvalidEntry (by rw [← hCs]; simp)) ?_
    walk_at "go"
    refine i_isX (hX _ st.same) he (t4 c_InvalidName (by rw [← hCs]; simp)) ?_
    walk_at "go"
    refine i_isX (hX _ st.same) he (t4 c_InvalidNetwork (by rw [← hCs]; simp)) ?_
    walk_at "go"
    refine st_newL st (by simp) fun l1 nl1 st => ?_
    walk_at "go"
    refine st_cat st (st.at 0 rfl) (st.at 1 rfl) (by simp) fun k1 H2 nk1 ek1 st => ?_
    walk_at "go"
    have st := st.picks [2] (by decide) (L' := [(k1, _)]) rfl
    refine i_isX (hX _ st.same) he (t4 c_InvalidOperation (by rw [← hCs]; simp)) ?_
    walk_at "go"
    refine i_isX (hX _ st.same) he (t4 c_InvalidState (by rw [← hCs]; simp)) ?_
    walk_at "go"
    refine i_isX (hX _ st.same) he (t4 c_InvalidText (by rw [← hCs]; simp)) ?_
    walk_at "go"
    refine st_newL st (by simp) fun l2 nl2 st => ?_
    walk_at "go"
    refine st_cat st (st.at 0 rfl) (st.at 1 rfl) (by simp) fun k2 H2 nk2 ek2 st => ?_
    walk_at "go"
    have st := st.picks [2] (by decide) (L' := [(k2, _)]) rfl
    refine i_isX (hX _ st.same) he (t4 c_ScriptSyntaxError (by rw [← hCs]; simp)) ?_
    walk_at "go"
    refine i_isX (hX _ st.same) he (t4 c_UnknownCheckpoint (by rw [← hCs]; simp)) ?_
    walk_at "go"
    refine st_newL st (by simp) fun l3 nl3 st => ?_
    walk_at "go"
    refine st_cat st (st.at 0 rfl) (st.at 1 rfl) (by simp) fun k3 H2 nk3 ek3 st => ?_
    walk_at "go"
    have st := st.picks [2] (by decide) (L' := [(k3, _)]) rfl
    refine i_isX (hX _ st.same) he (t4 c_UnknownPassenger (by rw [← hCs]; simp)) ?_
    walk_at "go"
    refine i_isX (hX _ st.same) he (t4 c_UnknownSeat (by rw [← hCs]; simp)) ?_
    walk_at "go"
    refine i_isX (hX _ st.same) he (t4 c_UnknownStation (by rw [← hCs]; simp)) ?_
    walk_at "go"
    refine st_newL st (by simp) fun l4 nl4 st => ?_
    walk_at "go"
    refine st_cat st (st.at 0 rfl) (st.at 1 rfl) (by simp) fun k4 H2 nk4 ek4 st => ?_
    walk_at "go"
    have st := st.picks [2] (by decide) (L' := [(k4, _)]) rfl
    generalize k4 = kl at st ⊢
    have hkl : ([V.bl (decide (C = c_EmptyBoat)), V.bl (decide (C = c_InvalidCount)), V.bl (decide (C = c_InvalidData))] ++ [V.bl (decide (C = c_InvalidEntry)), V.bl (decide (C = c_InvalidName)), V.bl (decide (C = c_InvalidNetwork))] ++ [V.bl (decide (C = c_InvalidOperation)), V.bl (decide (C = c_InvalidState)), V.bl (decide (C = c_InvalidText))] ++ [V.bl (decide (C = c_ScriptSyntaxError)), V.bl (decide (C = c_UnknownCheckpoint))] ++ [V.bl (decide (C = c_UnknownPassenger)), V.bl (decide (C = c_UnknownSeat)), V.bl (decide (C = c_UnknownStation))]) = Cs.map fun D => V.bl (decide (C = D)) := by
      rw [← hCs]
      rfl
    rw [hkl] at st
    obtain ⟨o1, o2, o3⟩ := hot_one hnd hj
    refine st_newL st (by simp) fun n0 nn0 st => ?_
    walk_at "go"
    refine st_newL st (by simp) fun n1 nn1 st => ?_
    walk_at "go"
    refine st_cat st (st.at 1 rfl) (st.at 2 rfl) (by simp) fun n2 H3 nn2 e2 st => ?_
    walk_at "go"
    refine st_newL st (by simp) fun n3 nn3 st => ?_
    walk_at "go"
    refine st_cat st (st.at 3 rfl) (st.at 4 rfl) (by simp) fun n4 H4 nn4 e4 st => ?_
    walk_at "go"
    have st : Stt [] H1 [(kl, .lst (Cs.map fun D => V.bl (decide (C = D)))), (n4, .lst (outNames.map V.str))] [] _ := st.picks [0, 5] (by decide) rfl
    refine i_tyL (st.sqL 0 rfl) ?_
    walk_at "go"
    refine ⟨kl, _, .bl true, rfl, rfl, st.sqL 0 rfl, rfl, flat_hot C Cs, ?_⟩
    rw [o1]
    walk_at "go"
    refine iteF ?_
    walk_at "go"
    refine i_isXT (hX _ st.same) he t2 ?_
    walk_at "go"
    refine iteF ?_
    walk_at "go"
    have hat : atI (outNames.map V.str) (j : Int) = some (.str wd) := atI_nat (by rw [List.getElem?_map, hw]; rfl)
    refine i_tyL (st.sqL 0 rfl) ?_
    walk_at "go"
    refine ⟨kl, _, .bl true, j, .bl true, rfl, rfl, st.sqL 0 rfl, rfl, flat_hot C Cs, o2, rfl, o3, ?_⟩
    refine i_ixL (st.sqL 1 rfl) hat ?_
    walk_at "go"
    refine st_newT X.K st (by simp) fun p1 np1 st => ?_
    walk_at "go"
    refine i_tyL (st.sqL 0 rfl) ?_
    walk_at "go"
    refine ⟨kl, _, .bl true, j, .bl true, rfl, rfl, st.sqL 0 rfl, rfl, flat_hot C Cs, o2, rfl, o3, ?_⟩
    refine i_ixL (st.sqL 1 rfl) hat ?_
    walk_at "go"
    refine ⟨j, C, wd, as, vals, d, rfl, hj, hw, has, hz, hf, hav.ext st.same, fun t H5 nt e5 h5 => ?_⟩
    have st := st.ext e5
    have hvl : vals.length ≤ 2 := by
      rw [hav.len]
      have : ∀ as ∈ outAttrs, as.length ≤ 2 := by decide +kernel
      exact this as (List.mem_of_getElem? has)
    refine ⟨p1, t, [.str wd], vals, rfl, rfl, (st.pers 0 rfl : TupAt X.K H5 p1 [.str wd]).sq, .inl (.inl h5), sz_of (by simp; omega), fun e => ?_, fun _ e => ?_, fun _ _ p hp => ?_⟩
    · cases e
    · subst e
      exact kE p1 H5 st.same (st.pers 0 rfl)
    · exact kE p _ (fun x o h => by rw [upd_ne (ne_of_none (st.same x o h) hp)]; exact st.same x o h) (.inl upd_same)
  refine ⟨_, pss_one (ps_try_as (X := outCx X g cdg s H) (i := 1) (c := .ref F)
    (tb := fun W D σ H => ∃ Ech : XK, (∀ cls d σ1 H1, σ1.length = 4 → Ech cls d H1 → W cls d σ1 H1) ∧ σ[0]? = some (some (.ref f)) ∧ H c0 = some (LamX.CodeO c0 q) ∧ tl Ech H D.rt)
    (ts := fun x cls d => OutSt X.K Cs x cls d) rfl rfl sc_law_outcome.nd rfl rfl ⟨rfl, by decide, .inl Er.f⟩ LamX.takes0 (fun W pn xe tk _ => hbody W pn xe _ _ _ tk) (fun x ob cls d more hz hf => by
      obtain ⟨t, h1, h2⟩ := hs x ob cls d more hz hf
      exact ⟨fun pins s1 σ H1 D I hE => h1.run pins s1 σ H1 D I (h2 D σ H1 hE)⟩)), ?_⟩
  refine ⟨_, fun cls d σ1 H1 hl hE => ?_, rfl, hc, h⟩
  obtain ⟨j, C, wd, as, vals, hj, rfl, hE'⟩ := id hE
  exact ⟨true, (errTab_get ht (List.mem_of_getElem? hj)).2.2.1, fun _ x hx => ⟨σ1, hl, rfl, hE⟩, fun z => by cases z⟩
end Fb

namespace Fb
open PySem PySem.Spec PyProof.Rows L2
theorem k_lcount {X : Cx} {K : PySem.W.Frag} (h : X.K = K) : MtR X "list.count" (rCntI K) := h ▸ mt_lcount
/-- x.m(e), K told -/
theorem k_bm {X : Cx} {K : PySem.W.Frag} {o e : Expr} {es : List Expr} {to : TE} {t : L2.TA} {name : Str} {apos cpos : Pos} {T id : String} {r : V → List V → Hp → VK → Prop} (h : X.K = K) (pa : PlainAttrs T) (sl : Slot T name id) (ty : typeOf (.builtin id) = pure (.type "method_descriptor")) (hm : MtR X id r) (ho : PE X o to) (ha : PA X (e :: es) t)
    (hbase : attributeBase o name X.env (eval o X.env) = eval o X.env := by rfl)
    (hfew : ((backTo cpos (starEach (e :: es) X.env)).all (fun x => !x.1) && (backToKw cpos (keywordEach [] X.env)).all (fun x => x.1.isSome) && decide ((e :: es).length + ([] : List Keyword).length + (if ([] : List Keyword).isEmpty then 0 else 1) < 30)) = true := by rfl)
    (hline : (apos.endLine == cpos.line) = true := by rfl) (hs : starEach (e :: es) X.env = (false, eval e X.env) :: starEach es X.env := by rfl) (hplain : (backTo cpos (starEach es X.env)).any (·.1) = false := by rfl) :
    PE X (.Call (.Attribute o name apos) (e :: es) [] cpos) (tBM K T r to t) := h ▸ pe_bm pa sl ty hm ho ha hbase hfew hline hs hplain
theorem getDs {α : Type} {l : List α} {i : Nat} {d : α} (h : i < l.length) : l[i]? = some (l.getD i d) := by
  rw [List.getD_eq_getElem?_getD, List.getElem?_eq_getElem h]; rfl
end Fb

namespace Fb
open PySem PySem.Spec PyProof.Rows L2
/-! ### states of any kind -/
/-- not too large -/
structure SmQ (B : Nat) (qs : List (List Int)) : Prop where
  len : qs.length ≤ 100
  q : ∀ q ∈ qs, q.length ≤ B
theorem flat_lenB {B : Nat} : ∀ {qs : List (List Int)}, (∀ q ∈ qs, q.length ≤ B) → qs.flatten.length ≤ B * qs.length
  | [], _ => by simp
  | q :: qs, h => by
    have h1 := h q (List.mem_cons_self ..)
    have h2 := flat_lenB (qs := qs) fun z hz => h z (List.mem_cons_of_mem _ hz)
    rw [List.flatten_cons, List.length_append, List.length_cons, Nat.mul_succ]
    omega
/-- is_valid_state told by its parts -/
theorem stOk_iff {net : List (List Key)} {n : Int} {qs : List (List Int)} : StOk net n qs ↔ 1 ≤ n ∧ qs.length = net.length ∧ (∀ (i : Nat) (q : List Int) (seats : List Key), qs[i]? = some q → net[i]? = some seats → q.length < seats.length) ∧ qs.flatten.Nodup ∧ ∀ p ∈ qs.flatten, 1 ≤ p ∧ p < n :=
  ⟨fun h => ⟨h.one, h.len, h.short, h.nodup, h.rng⟩, fun h => ⟨h.1, h.2.1, h.2.2.1, h.2.2.2.1, h.2.2.2.2⟩⟩
def shortL (qs : List (List Int)) (net : List (List Key)) : List Bool := (qs.zip net).map fun p => decide (p.1.length < p.2.length)
theorem shortL_iff {qs : List (List Int)} {net : List (List Key)} : (shortL qs net).all id = true ↔ ∀ (i : Nat) (q : List Int) (seats : List Key), qs[i]? = some q → net[i]? = some seats → q.length < seats.length := by
  unfold shortL
  rw [List.all_map, List.all_eq_true]
  constructor
  · intro h i q seats h1 h2
    have : (qs.zip net)[i]? = some (q, seats) := by
      rw [List.getElem?_zip_eq_some]
      exact ⟨h1, h2⟩
    exact of_decide_eq_true (h _ (List.mem_of_getElem? this))
  · rintro h ⟨q, seats⟩ hm
    obtain ⟨i, hi⟩ := List.getElem?_of_mem hm
    rw [List.getElem?_zip_eq_some] at hi
    exact decide_eq_true (h i q seats hi.1 hi.2)
def rngL2 (n : Int) (ps : List Int) : List Bool := ps.map fun p => decide (1 ≤ p) && decide (p < n)
theorem rngL2_iff {n : Int} {ps : List Int} : (rngL2 n ps).all id = true ↔ ∀ p ∈ ps, 1 ≤ p ∧ p < n := by
  unfold rngL2
  rw [List.all_map, List.all_eq_true]
  simp
def spIsStG (K : PySem.W.Frag) : Sp := fun vs H Q _ => ∃ (nv sv : V) (net : List (List Key)) (n : Int) (qs : List (List Int)) (B : Nat), vs = [nv, sv] ∧ Dt K H nv (netD net) ∧ Dt K H sv (stD n qs) ∧ NetOk net ∧ SmQ B qs ∧ B * qs.length ≤ 1000 ∧ ∀ (b : Bool) H', (b = true ↔ StOk net n qs) → Same H H' → Q (.bl b) H'
section
variable {P : Program} {w : World} {K : PySem.W.Frag} {mg : Str → Option Value} {base : Heap}
theorem ok_is_valid_state_g (A : All K mg) : Cal P w K mg base 1 "is_valid_state" (spIsStG K) := by
  refine cal_of A.d_is_valid_state sc_is_valid_state (fun _ _ _ _ _ _ us hl => match us, hl with | [_, _], _ => rfl) (fun vs H Q E h => ?_) (fun f cdv A' outer s H0 vs Q E hr h => ?_)
  · obtain ⟨nv, sv, net, n, qs, B, rfl, _⟩ := h
    rfl
  · obtain ⟨nv, sv, net, n, qs, B, rfl, hn, hs, ok, sm, hB, k⟩ := h
    obtain ⟨na, ns, rfl, hna, hns⟩ := id hn.tup_inv
    obtain ⟨a, qa, xs, rfl, ha, hq, hx⟩ := st_inv hs
    have hxl : xs.length = qs.length := by rw [hx.len, List.length_map]
    have hnl : ns.length = net.length := by rw [hns.len, List.length_map]
    have h40 := ok.le
    have hql := sm.len
    have hfl : qs.flatten.length ≤ 1000 := Nat.le_trans (flat_lenB sm.q) hB
    have no : ¬ StOk net n qs → ∀ {H'}, Same H0 H' → Q (.bl false) H' := fun h H' e => k false H' ⟨fun h => (by cases h), fun z => absurd z h⟩ e
    refine ⟨_, (pss_cons (ps_if (pt_cmpR op_ne (pe_callB (id := "len") (k_len (K := K) rfl) (by rfl) A.b_len (by decide +kernel) (pa_cons (pv 1) pa_nil)) pe_int (nomark _)) (pss_one (ps_ret pe_bl)) pss_nil)
 (pss_cons (ps_asg (pv 1) (k_tg (K := K) (n := 2) rfl rfl (pgs_cons (pg_name (i := 2) sc_is_valid_state.nd rfl (Or.inr rfl)) (pgs_cons (pg_name (i := 3) sc_is_valid_state.nd rfl (Or.inl rfl)) pgs_nil))))
 (pss_cons (ps_if (PW.pt (pw_or (pt_cmpR op_lt (pv 2) pe_int (nomark _)) (pw_or1 (pt_cmpR op_ne (pe_callB (id := "len") (k_len (K := K) rfl) (by rfl) A.b_len (by decide +kernel) (pa_cons (pv 3) pa_nil)) (pe_callB (id := "len") (k_len (K := K) rfl) (by rfl) A.b_len (by decide +kernel) (pa_cons (pv 0) pa_nil)) (nomark _))))) (pss_one (ps_ret pe_bl)) pss_nil)
 (pss_cons (ps_if (pt_not (pt_val (pe_callB (id := "all") (k_all (K := K) rfl rfl) (by rfl) A.b_all (by decide +kernel) (pa_cons (pe_lc rfl sc_is_valid_state.nd (k_zip (K := K) rfl (by rfl) A.b_zip (pa_cons (pv 3) (pa_cons (pv 0) pa_nil))) (blkOk_by (own := [("queue", 4), ("seats", 6)]) (N := ["network", "state", "next_passenger", "queues", "queue", "waiting", "seats", "passenger"]) (sc := defScope s_is_valid_state) (by decide +kernel)) (fun _ _ _ _ _ => (k_tg (K := K) (n := 2) rfl rfl (pgs_cons (pg_name (i := 4) sc_is_valid_state.nd rfl (Or.inl rfl)) (pgs_cons (pg_name (i := 6) sc_is_valid_state.nd rfl (Or.inl rfl)) pgs_nil)))) (fun _ _ _ _ _ => pts_nil) (fun _ _ _ _ _ => (pe_cmpR op_lt (pe_callB (id := "len") (k_len (K := K) rfl) (by rfl) A.b_len (by decide +kernel) (pa_cons (pv 4) pa_nil)) (pe_callB (id := "len") (k_len (K := K) rfl) (by rfl) A.b_len (by decide +kernel) (pa_cons (pv 6) pa_nil)) (nomark _)))) pa_nil)))) (pss_one (ps_ret pe_bl)) pss_nil)
 (pss_cons (ps_set (i := 5) sc_is_valid_state.nd rfl (Or.inl rfl) (pe_lst pa_nil))
 (pss_cons (ps_for PassesOwn.never rfl (k_pt (K := K) rfl (pv 3)) (pg_name (i := 4) sc_is_valid_state.nd rfl (Or.inl rfl))
 (pss_one (ps_expr (pe_bm PySem.F.plainAttrs_list PySem.F.slot_list_extend PySem.F.type_list_extend mt_extend (pv 5) (pa_cons (pe_callTy (T := "list") (k_list (K := K) rfl) (by rfl) A.b_list (by decide +kernel) (pa_cons (pv 4) pa_nil)) pa_nil)))))
 (pss_one (ps_ret (pe_and (pe_cmpR op_eq (pe_lenSetG (X := _) rfl (by rfl) A.b_len (by rfl) A.b_set (pv 5)) (pe_callB (id := "len") (k_len (K := K) rfl) (by rfl) A.b_len (by decide +kernel) (pa_cons (pv 5) pa_nil)) (nomark _)) (pe_one (pe_callB (id := "all") (k_all (K := K) rfl rfl) (by rfl) A.b_all (by decide +kernel) (pa_cons (pe_lc rfl sc_is_valid_state.nd (k_pl (K := K) rfl (pv 5)) (blkOk_by (own := [("passenger", 7)]) (N := ["network", "state", "next_passenger", "queues", "queue", "waiting", "seats", "passenger"]) (sc := defScope s_is_valid_state) (by decide +kernel)) (fun _ _ _ _ _ => (pg_name (i := 7) sc_is_valid_state.nd rfl (Or.inl rfl))) (fun _ _ _ _ _ => pts_nil) (fun _ _ _ _ _ => (pe_chain op_le op_lt pe_int (pv 7) (pv 2)))) pa_nil)))))))))))), ?_⟩
    have st : Stt [] H0 [] [] H0 := Stt.init H0
    walk_at "begin"
    refine i_lenT (xs := [.int n, .ref qa]) (by walk_at "sq") ?_
    walk_at "go"
    refine iteF ?_
    walk_at "go"
    refine i_gtup (xs := [.int n, .ref qa]) (by walk_at "sq") rfl ?_
    walk_at "go"
    by_cases hn1 : n < 1
    · rw [decide_eq_true hn1]
      refine iteT ?_
      refine iteT ?_
      exact no (fun so => by have := so.one; omega) st.same
    rw [decide_eq_false hn1]
    refine iteF ?_
    walk_at "go"
    refine i_lenT (xs := xs) (by walk_at "sq") ?_
    walk_at "go"
    refine i_lenT (xs := ns) (by walk_at "sq") ?_
    walk_at "go"
    by_cases hll : ¬ (qs.length = net.length)
    · rw [decide_eq_false (show ¬ (xs.length : Int) = (ns.length : Int) by omega)]
      refine iteT ?_
      exact no (fun so => hll so.len) st.same
    have hll := Classical.not_not.mp hll
    rw [decide_eq_true (show (xs.length : Int) = (ns.length : Int) by omega)]
    refine iteF ?_
    walk_at "go"
    have hsl : (shortL qs net).length = qs.length := by
      unfold shortL
      rw [List.length_map, List.length_zip]
      omega
    refine ⟨false, false, qa, na, xs, ns, rfl, sqBT (by walk_at "sq"), sqBT (by walk_at "sq"), LcIt.map (walk_zipB (xs := xs) (ys := ns) (n := qs.length) (by omega)) ((shortL qs net).map V.bl) (by rw [List.length_map, hsl]) (sz_lt (by omega)) (fun H' e => ⟨sqBT (hq.keep (TK.same e)).sq, sqBT (hna.keep (TK.same e)).sq⟩) ?_ ?_⟩
    · rintro i v y H1 H' N hi hy e1 ⟨T, x1, x2, rfl, hT, rfl, hx1, hx2⟩ q
      obtain ⟨qq, qb, hqi, rfl, hqb⟩ := qs_at hx hx1
      obtain ⟨seats, sb, hsi, rfl, hsb⟩ := net_at hns hx2
      have e2 : Same H0 (upd H1 T (.tup [.ref qb, .ref sb])) := e1.trans (Same.new hT)
      walk_at "go"
      refine i_gtup (xs := [.ref qb, .ref sb]) (SqT.of upd_same) rfl ?_
      walk_at "go"
      refine ⟨rfl, ?_⟩
      walk_at "go"
      refine i_lenT ((hqb.keep (TK.same e2)).sq) ?_
      walk_at "go"
      refine i_lenT ((hsb.keep (TK.same e2)).sq) ?_
      walk_at "go"
      rw [iV_len, List.length_map]
      have hz : (qs.zip net)[i]? = some (qq, seats) := by
        rw [List.getElem?_zip_eq_some]
        exact ⟨hqi, hsi⟩
      unfold shortL at hy
      rw [List.getElem?_map, List.getElem?_map, hz] at hy
      obtain rfl : V.bl (decide (qq.length < seats.length)) = y := Option.some.inj hy
      have e : decide ((qq.length : Int) < (seats.length : Int)) = decide (qq.length < seats.length) := by
        rw [Bool.eq_iff_iff, decide_eq_true_iff, decide_eq_true_iff]
        omega
      rw [e]
      exact q _ (Same.new hT)
    · intro D H hD e1 e2
      have st := st.fresh hD e1 e2 trivial
      walk_at "go"
      refine i_all (bs := shortL qs net) (st.sqL 0 rfl) ?_
      by_cases hsh : ¬ ((shortL qs net).all id = true)
      · rw [Bool.not_eq_true] at hsh
        rw [hsh]
        walk_at "go"
        refine iteT ?_
        refine no (fun so => ?_) st.same
        rw [shortL_iff.mpr so.short] at hsh
        cases hsh
      have hsh := Classical.not_not.mp hsh
      rw [hsh]
      walk_at "go"
      refine iteF ?_
      walk_at "go"
      refine st_newL st (by simp) fun wl nw st => ?_
      have st := st.picks [1] (by decide) (L' := [(wl, .lst (iV ((qs.take 0).flatten)))]) rfl
      walk_at "go"
      refine ⟨qa, rfl, ⟨_, by walk_at "sq"⟩, ForIt.go (walk_tup (xs := xs)) (fun i σ H => ∃ s4, σ = [some (.ref na), some (.ref a), some (.int n), some (.ref qa), s4, some (.ref wl), none, none] ∧ Stt [] H0 [(wl, .lst (iV ((qs.take i).flatten)))] [] H) ⟨_, rfl, st⟩ (fun i σ H _ p => ?_) ?_ ?_⟩
      · obtain ⟨_, _, st⟩ := p
        walk_at "sq"
      · rintro i x σ H H' hi ⟨s4, rfl, st⟩ ⟨rfl, hxi⟩
        obtain ⟨qq, qb, hqi, rfl, hqb⟩ := qs_at hx hxi
        walk_at "go"
        refine i_tyL (xs := iV ((qs.take i).flatten)) (by walk_at "sq") ?_
        walk_at "go"
        refine st_list st (ys := iV qq) (.inr (by walk_at "sq")) fun l H hl st => ?_
        walk_at "go"
        have b1 : ((qs.take (i + 1)).flatten).length ≤ 1000 := by
          refine Nat.le_trans (flat_lenB (B := B) fun q hq => sm.q q (List.mem_of_mem_take hq)) (Nat.le_trans (Nat.mul_le_mul_left B ?_) hB)
          rw [List.length_take]
          omega
        have hft := flatten_take qs i hqi
        rw [hft, List.length_append] at b1
        refine st_extend st 0 rfl (zs := iV qq) (by walk_at "at") (by rw [iV_len, iV_len]; omega) fun H st => ?_
        have st := st.picks [0] (by decide) (L' := [(wl, .lst (iV ((qs.take i).flatten) ++ iV qq))]) rfl
        refine ⟨_, rfl, ?_⟩
        rw [hft]
        have e : iV ((qs.take i).flatten ++ qq) = iV ((qs.take i).flatten) ++ iV qq := by simp [iV]
        rw [e]
        exact st
      · rintro σ H ⟨s4, rfl, st⟩
        rw [hxl, List.take_length] at st
        walk_at "go"
        refine i_lenSetG ?_
        walk_at "go"
        refine ⟨wl, qs.flatten, rfl, st.sqL 0 rfl, hfl, fun c hc => ?_⟩
        walk_at "go"
        refine i_lenL (xs := iV qs.flatten) (by walk_at "sq") ?_
        walk_at "go"
        rw [iV_len]
        by_cases hnd : ¬ (qs.flatten.Nodup)
        · rw [decide_eq_false (show ¬ (c : Int) = (qs.flatten.length : Int) from fun e => hnd (hc.mp (by omega)))]
          refine iteF ?_
          exact no (fun so => hnd so.nodup) st.same
        have hnd := Classical.not_not.mp hnd
        rw [decide_eq_true (show (c : Int) = (qs.flatten.length : Int) by have := hc.mpr hnd; omega)]
        refine iteT ?_
        walk_at "go"
        refine ⟨wl, rfl, ⟨_, by walk_at "sq"⟩, LcIt.map (walk_list (xs := iV qs.flatten)) ((rngL2 n qs.flatten).map V.bl) (by unfold rngL2; rw [List.length_map, List.length_map, iV_len]) (sz_lt (by rw [iV_len]; omega)) (fun H' e => Same.seq e (by walk_at "sq")) ?_ ?_⟩
        · rintro i v y H1 H' N hi hy e1 ⟨rfl, hv⟩ q
          rw [iV_len] at hi
          obtain ⟨p, hp, rfl⟩ : ∃ p, qs.flatten[i]? = some p ∧ V.int p = v := by
            unfold iV at hv
            rw [List.getElem?_map, List.getElem?_eq_getElem hi] at hv
            exact ⟨_, List.getElem?_eq_getElem hi, Option.some.inj hv⟩
          unfold rngL2 at hy
          rw [List.getElem?_map, List.getElem?_map, hp] at hy
          obtain rfl : V.bl (decide (1 ≤ p) && decide (p < n)) = y := Option.some.inj hy
          walk_at "go"
          refine ⟨rfl, ?_⟩
          walk_at "go"
          by_cases h1 : 1 ≤ p
          · rw [decide_eq_true h1]
            rw [decide_eq_true h1, Bool.true_and] at q
            refine iteT ?_
            walk_at "go"
            exact q _ (Same.refl _)
          · rw [decide_eq_false h1]
            rw [decide_eq_false h1, Bool.false_and] at q
            refine iteF ?_
            exact q _ (Same.refl _)
        · intro D H' hD e1 e2
          walk_at "go"
          refine i_all (bs := rngL2 n qs.flatten) (SqL.of e2) ?_
          refine k _ _ ?_ (st.same.trans e1)
          rw [rngL2_iff, stOk_iff]
          exact ⟨fun h => ⟨by omega, hll, shortL_iff.mp hsh, hnd, h⟩, fun h => h.2.2.2.2⟩
end
end Fb

namespace Fb
open PySem PySem.Spec PyProof.Rows L2 PySem.HandSPX
/-! ### validate_state, of any state (cut from stx) -/
def spVStG (K : PySem.W.Frag) (C1 : Addr) : Sp := fun vs H Q E => ∃ (nv sv : V) (net : List (List Key)) (n : Int) (qs : List (List Int)) (B : Nat), vs = [nv, sv] ∧ Dt K H nv (netD net) ∧ Dt K H sv (stD n qs) ∧ NetOk net ∧ SmQ B qs ∧ B * qs.length ≤ 1000 ∧ (StOk net n qs → ∀ H', Same H H' → Q .non H') ∧ (¬ StOk net n qs → ∀ H', Same H H' → E (.ref C1) none H')
section
variable {P : Program} {w : World} {K : PySem.W.Frag} {mg : Str → Option Value} {base : Heap}
theorem ok_validate_state_g (A : All K mg) {C : Addr} (O_InvalidState : OwnC K C) (m_InvalidState : mg "InvalidState" = some (.ref C)) (c_is_valid_state : Cal P w K mg base 1 "is_valid_state" (spIsStG K)) : Cal P w K mg base 4 "validate_state" (spVStG K C) := by
  refine cal_ofX A.d_validate_state sc_validate_state (fun _ _ _ _ _ _ us hl => match us, hl with | [_, _], _ => rfl) (fun vs H Q E h => ?_) (fun f cdv A' outer s H0 vs Q E hr h => ?_)
  · obtain ⟨nv, sv, net, n, qs, B, rfl, _⟩ := h
    rfl
  · obtain ⟨nv, sv, net, n, qs, B, rfl, hn, hs, ok, sm, hB, k1, k2⟩ := h
    refine ⟨_, (pss_one (ps_if (pt_not (pt_val (pc c_is_valid_state hr (by decide) (pa_cons (pv 0) (pa_cons (pv 1) pa_nil))))) (pss_one (ps_own O_InvalidState m_InvalidState rfl (takes_of rfl rfl rfl rfl) rfl)) pss_nil)), ?_⟩
    walk_at "begin"
    refine ⟨nv, sv, net, n, qs, B, rfl, hn, hs, ok, sm, hB, fun b H1 hb e1 => ?_⟩
    walk_at "go"
    cases b with
    | true =>
      refine iteF ?_
      walk_at "go"
      exact k1 (hb.mp rfl) _ e1
    | false =>
      refine iteT ?_
      walk_at "go"
      exact k2 (fun so => by have := hb.mpr so; cases this) _ e1
end
end Fb
namespace Fb
open PySem PySem.Spec PyProof.Rows L2 PySem.HandSPX
theorem bad_ok {net : List (List Key)} (ok : NetOk net) : badNet net = none := by
  unfold badNet
  rw [if_neg (fun e => by have := ok.pos; rw [e] at this; exact absurd this (by decide))]
  refine findSome_none _ fun j hj => ?_
  unfold badF
  have h40 := ok.le
  rw [if_neg (by omega)]
  have e : net[j]? = some (net.getD j []) := getDs hj
  rw [ok.bad e]
  rfl
theorem net_wild {net : List (List Key)} (ok : NetOk net) : ∀ (i : Nat) (seats : List Key), net[i]? = some seats → (∀ k ∈ seats, keyZ k) ∧ seats.length ≤ 100000 := fun i seats h => ⟨ok.keyZ h, by have := (ok.size i seats h).2; omega⟩
end Fb

namespace Fb
open PySem PySem.Spec PyProof.Rows L2 PySem.HandSPX
/-! ### own exceptions with one attribute -/
def spKx (C : Addr) (f : Str) : Sp := fun vs H Q _ => ∃ (a : Addr) (x : V), vs = [.ref a, x] ∧ H a = some (exo a C none) ∧ ∀ d, H d = none → d ≠ a → Q .non (upd (upd H d (exd d [(f, x)])) a (exo a C (some d)))
theorem kx_sp {C : Addr} {f : Str} {x : V} {H1 : Hp} {Q : XK} (h : ∀ d, H1 d = none → Q (.ref C) (some d) (upd H1 d (.xd [(f, x)]))) : [x].length = 1 ∧ ∀ a, H1 a = none → spKx C f ([.ref a] ++ [x]) (upd H1 a (exo a C none))
    (fun v H2 => v = .non ∧ ∃ (d : Addr) (fs : List (Str × V)), H2 a = some (exo a C (some d)) ∧ H2 d = some (exd d fs) ∧ H1 d = none ∧ Q (.ref C) (some d) (upd (del H2 a) d (.xd fs))) (fun _ _ _ => False) := by
  refine ⟨rfl, fun a na => ⟨a, x, rfl, upd_same, fun d nd nda => ⟨rfl, d, [(f, x)], upd_same, ?_, ?_, ?_⟩⟩⟩
  · rw [upd_ne nda, upd_same]
  · rw [upd_ne nda] at nd
    exact nd
  · have nd1 : H1 d = none := by
      rw [upd_ne nda] at nd
      exact nd
    have e : upd (del (upd (upd (upd H1 a (exo a C none)) d (exd d [(f, x)])) a (exo a C (some d))) a) d (.xd [(f, x)]) = upd H1 d (.xd [(f, x)]) := by
      funext b
      by_cases e1 : b = d
      · rw [e1, upd_same, upd_same]
      · rw [upd_ne e1, upd_ne e1]
        by_cases e2 : b = a
        · rw [e2, del_same, na]
        · rw [del_ne e2, upd_ne e2, upd_ne e1, upd_ne e2]
    rw [e]
    exact h d nd1
end Fb

namespace Fb
open PySem PySem.Spec PyProof.Rows L2 PySem.HandSPX
/-! ### InvalidText(row = ..) -/
structure KxInvalidText (K : PySem.W.Frag) (mg : Str → Option Value) (C : Addr) : Prop where
  mgC : mg "InvalidText" = some (.ref C)
  ex : ∃ f D fd, Fun K "__init__" "InvalidText.__init__" s_InvalidText___init f fd ∧ OexI K C f ["row"] ∧ FeB K mg D
theorem KxInvalidText.mk' {K : PySem.W.Frag} {mg : Str → Option Value} {C f D : Addr} {oc : Value} {od an : Option Addr} {osl : Array (Option Value)} {kV doc pm cdv ct : Value} (mgC : mg "InvalidText" = some (.ref C)) (a : PySem.W.findIn K (.ref C) "__init__" = some (some (.ref f)))
    (l : K.lookup f = some ⟨oc, od, .func (PySem.W.fnOf "__init__" "InvalidText.__init__" (defArgs s_InvalidText___init) (defBody s_InvalidText___init) (defScope s_InvalidText___init) .none kV doc pm an cdv ct), osl⟩)
    (c : PySem.W.codeIn K cdv "InvalidText.__init__" = true) (k : PySem.W.keepIn K (.ref f) = true) (o : oexAll K C f ["row"] = true) (m : mg "FerryError" = some (.ref D))
    (s : PySem.W.specialIn K (.ref D) "__getattribute__" = some (some (.builtin "type.__getattribute__"))) (r : PySem.W.readsIn K D (.type "type") = true) (fc : PySem.W.findCls K (.ref D) (.type "type") "__init__" = some (.val (.builtin "ValueError.__init__"))) : KxInvalidText K mg C :=
  ⟨mgC, f, D, _, fun_mk l c k, oexAll_ok o, ⟨m, s, r, fc⟩⟩
theorem sck_InvalidText : FnScope ["self", "row"] ["self", "row"] (defScope s_InvalidText___init) := ⟨rfl, rfl, rfl, by decide +kernel, rfl, by decide +kernel, by decide +kernel⟩
theorem ok_kx_InvalidText {P : Program} {w : World} {K : PySem.W.Frag} {mg : Str → Option Value} {base : Heap} {C D f : Addr} {fd : FuncData} (F : Fun K "__init__" "InvalidText.__init__" s_InvalidText___init f fd) (O : OexI K C f ["row"]) (B : FeB K mg D) : FnOk P w K mg base (L2.CX P w) 1 f fd ["self", "row"] (spKx C "row") := by
  refine F.okX sck_InvalidText (fun vs H Q E h => ?_) (fun cdv A' outer s H0 vs Q E hr h => ?_)
  · obtain ⟨a, x, rfl, _⟩ := h
    rfl
  · obtain ⟨a, x, rfl, ha, k⟩ := h
    have key : ∃ t, PSs (cxOf (L2.CX P w) P w K mg base ["self", "row"] "InvalidText.__init__" (defScope s_InvalidText___init) f cdv A' outer s H0 E).nox (defBody s_InvalidText___init) t ∧ t { nx := fun _ H' => Q .non H', rt := Q } (start ["self", "row"] [.ref a, x]) H0 := by
      refine ⟨_, (pss_cons (ps_expr (pe_feinit (D := D) rfl B.mg B.sp B.rd B.fc (pa_cons (pv 0) (pa_cons pe_str pa_nil)))) (pss_one (ps_ost (pv 0) (pv 1)))), ?_⟩
      walk_at "begin"
      unfold tVeI
      walk_at "go"
      refine ⟨a, C, [.str "invalid text"], rfl, by decide, O.oex, ha, ?_⟩
      walk_at "go"
      unfold tOst
      walk_at "go"
      refine ⟨a, C, rfl, O.oex, O.no _ (by simp), .inl ⟨ha, fun d nd na => ?_⟩⟩
      exact k d nd na
    obtain ⟨t, p, q⟩ := key
    exact ⟨t, p.nox, q⟩
/-- raise InvalidText(row = ..) -/
theorem ps_kx_InvalidText {X : Cx} {C : Addr} {W : WX} {tk : TA} {kws : List Keyword} {p pos pos' : Pos} (B : KxInvalidText X.K X.mg C) (hr : Room 2 X.A) (hc : X.calm = true) (tks : Takes X W) (hg : Gl X "InvalidText") (hkw : PK X kws tk)
    (hall : (backToKw pos (keywordEach kws X.env)).all (·.1.isSome) = true := by rfl) (hks : (backToKw pos (keywordEach kws X.env)).filterMap (·.1) = (["row"] : List Str) := by rfl)
    (hpl : ((backTo pos (starEach [] X.env)).any (·.1) || (backToKw pos (keywordEach kws X.env)).any (·.1.isNone)) = false := by rfl) :
    PS X (.Raise (some (.Call (.Name "InvalidText" p) [] kws pos)) none pos') (fun _ σ H => tMkOK C (spKx C "row") (fun vs zs => vs ++ zs) 1 tk σ H fun cls d H' => W cls d σ H') := by
  obtain ⟨f, D, fd, F, O, FB⟩ := B.ex
  have hb : KBn X.K fd ["self", "row"] 1 ["row"] (fun us ws => us ++ ws) (fun vs zs => vs ++ zs) := kbn_req F (fun us ws => us ++ ws) (fun r1 r2 => Vals.append r1 r2) (fun kV doc pm an cdv ct us ws l1 l2 => by
    match us, ws, l1, l2 with
    | [u], [w1], _, _ => rfl)
  exact ps_raise hc tks (pmk_oexK O.oex O.ini O.fn (ok_kx_InvalidText F O FB) hr hb passL hg B.mgC hkw hall hks (by decide) hpl)
end Fb

namespace Fb
open PySem PySem.Spec PyProof.Rows L2
/-! ### the ways behind an if, or behind a statement, joined -/
theorem i_joinI {c : TT} {t u : TS} {nx bk ct : L2.St → Hp → Prop} {rt : VK} {σ : L2.St} {H : Hp} (R : L2.St → Hp → Prop) (h1 : ∀ N : L2.St → Hp → Prop, (∀ σ' H', R σ' H' → N σ' H') → tIfS c t u ⟨N, rt, bk, ct⟩ σ H) (h2 : ∀ σ' H', R σ' H' → nx σ' H') : tIfS c t u ⟨nx, rt, bk, ct⟩ σ H := h1 nx h2
theorem i_join {t u : TS} {nx bk ct : L2.St → Hp → Prop} {rt : VK} {σ : L2.St} {H : Hp} (R : L2.St → Hp → Prop) (h1 : ∀ N : L2.St → Hp → Prop, (∀ σ' H', R σ' H' → N σ' H') → t ⟨N, rt, bk, ct⟩ σ H) (h2 : ∀ σ' H', R σ' H' → u ⟨nx, rt, bk, ct⟩ σ' H') : tSeq t u ⟨nx, rt, bk, ct⟩ σ H := h1 _ h2
theorem i_joinE {c : TT} {ta tb : TE} {σ : L2.St} {H : Hp} {Q : VK} (R : V → Hp → Prop) (h1 : ∀ N : VK, (∀ v H', R v H' → N v H') → tIf c ta tb σ H N) (h2 : ∀ v H', R v H' → Q v H') : tIf c ta tb σ H Q := h1 Q h2
theorem i_joinA {ta tb : TE} {σ : L2.St} {H : Hp} {Q : VK} (R : V → Hp → Prop) (h1 : ∀ N : VK, (∀ v H', R v H' → N v H') → tAndV ta tb σ H N) (h2 : ∀ v H', R v H' → Q v H') : tAndV ta tb σ H Q := h1 Q h2
end Fb

namespace Fb
open PySem PySem.Spec PyProof.Rows L2
/-! ### states that are drawn, of any numbers -/
def spRS (K : PySem.W.Frag) : Sp := fun vs H Q _ => ∃ (h a : Addr) (nv : V) (net : List (List Key)), vs = [.ref h, nv] ∧ Dr K H h a ∧ Dt K H nv (netD net) ∧ NetOk net ∧ ∀ v n qs H', Dt K H' v (stD n qs) → StOk net n qs → n < 128 ^ 10 → ExB [h] H H' → Dr K H' h a → Q v H'
theorem inV_iV {b : Int} {w : List Int} : inV (V.int b) (iV w) = decide (b ∈ w) := by
  unfold inV iV
  rw [List.any_map, Bool.eq_iff_iff, List.any_eq_true, decide_eq_true_iff]
  constructor
  · rintro ⟨y, hy, h⟩
    have h : decide (y = b) = true := h
    rw [← of_decide_eq_true h]; exact hy
  · intro h
    exact ⟨b, h, (decide_eq_true rfl : decide (b = b) = true)⟩
/-- what has been drawn of a state -/
structure Dwn (net : List (List Key)) (hi : Int) (qs : List (List Int)) : Prop where
  sh : ∀ (i : Nat) (q : List Int) (seats : List Key), qs[i]? = some q → net[i]? = some seats → q.length < seats.length
  nd : qs.flatten.Nodup
  rg : ∀ p ∈ qs.flatten, 1 ≤ p ∧ p ≤ hi
theorem Dwn.nil {net : List (List Key)} {hi : Int} : Dwn net hi [] := ⟨fun i q s h => by simp at h, List.nodup_nil, fun p h => by simp at h⟩
theorem Dwn.snoc {net : List (List Key)} {hi : Int} {qs : List (List Int)} {q : List Int} {seats : List Key} (d : Dwn net hi qs) (e : net[qs.length]? = some seats) (hq : q.length < seats.length) (nd : (qs.flatten ++ q).Nodup) (rg : ∀ p ∈ q, 1 ≤ p ∧ p ≤ hi) : Dwn net hi (qs ++ [q]) := by
  have ef : (qs ++ [q]).flatten = qs.flatten ++ q := by rw [List.flatten_append, List.flatten_singleton]
  refine ⟨fun i x s h1 h2 => ?_, by rw [ef]; exact nd, fun p hp => ?_⟩
  · rw [List.getElem?_append] at h1
    split at h1
    · exact d.sh i x s h1 h2
    · rename_i hlt
      have hi := (List.getElem?_eq_some_iff.mp h1).1
      have hi : i = qs.length := by simp at hi; omega
      subst hi
      rw [e] at h2
      rw [Nat.sub_self] at h1
      rw [← Option.some.inj h1, ← Option.some.inj h2]
      exact hq
  · rw [ef] at hp
    rcases List.mem_append.mp hp with h | h
    · exact d.rg p h
    · exact rg p h
theorem Dwn.flat_le {net : List (List Key)} {hi : Int} {qs : List (List Int)} (ok : NetOk net) (d : Dwn net hi qs) (hl : qs.length ≤ net.length) : qs.flatten.length ≤ 8 * qs.length := flatten_le fun q hq => by
  obtain ⟨i, hi⟩ := List.getElem?_of_mem hq
  have hlt : i < net.length := Nat.lt_of_lt_of_le (List.getElem?_eq_some_iff.mp hi).1 hl
  have e : net[i]? = some (net.getD i []) := getDs hlt
  have h1 := d.sh i q _ hi e
  have h2 := (ok.size i _ e).2
  omega
section
variable {P : Program} {w : World} {K : PySem.W.Frag} {mg : Str → Option Value} {base : Heap}
theorem ok_law_random_state (A : All K mg) (c_law_drawn : Cal P w K mg base 1 "_law_drawn" (spDrawn K)) : Cal P w K mg base 2 "_law_random_state" (spRS K) := by
  refine cal_of A.d_law_random_state sc_law_random_state (fun _ _ _ _ _ _ us hl => match us, hl with | [_, _], _ => rfl) (fun vs H Q E h => ?_) (fun f cdv A' outer s H0 vs Q E hr h => ?_)
  · obtain ⟨h, a, nv, net, rfl, _⟩ := h
    rfl
  · obtain ⟨h, a, nv, net, rfl, d, hn, ok, k⟩ := h
    obtain ⟨i, m, r, st, hS⟩ := d.start
    obtain ⟨na, xs, rfl, hna, hxs⟩ := hn.tup_inv
    have hxl : xs.length = net.length := by rw [hxs.len, List.length_map]
    have h40 := ok.le
    have st := (st.know (φ := fun H => TupAt K H na xs) hna Pers.tup).know (φ := fun H => DtAll K H xs (net.map seatsD)) hxs Pers.all
    refine ⟨_, (pss_cons (ps_par3 (i := 2) (j := 3) (l := 4) (by rfl) sc_law_random_state.nd rfl rfl rfl (by decide) (by decide) (by decide) rfl rfl rfl (pa_cons (pe_ix (k_ixL (K := K) rfl) (pe_lst (pa_cons pe_int (pa_cons pe_int (pa_cons (pe_op op_pow pe_int pe_int) pa_nil)))) (pc c_law_drawn hr (by decide) (pa_cons (pv 0) (pa_cons pe_int pa_nil))) (fun _ _ => rfl)) (pa_cons (pe_lst pa_nil) (pa_cons (pe_lst pa_nil) pa_nil))) (by rfl))
 (pss_cons (ps_for PassesOwn.never rfl (k_pt (K := K) rfl (pv 1)) (pg_name (i := 5) sc_law_random_state.nd rfl (Or.inl rfl))
 (pss_cons (ps_set (i := 6) sc_law_random_state.nd rfl (Or.inl rfl) (pe_lst pa_nil))
 (pss_cons (ps_for PassesOwn.never rfl (pi_range1 (by rfl) A.b_range (pa_cons (pc c_law_drawn hr (by decide) (pa_cons (pv 0) (pa_cons (pe_callB (id := "len") (k_len (K := K) rfl) (by rfl) A.b_len (by decide +kernel) (pa_cons (pv 5) pa_nil)) pa_nil))) pa_nil)) (pg_name (i := 7) sc_law_random_state.nd rfl (Or.inl rfl))
 (pss_cons (ps_set (i := 8) sc_law_random_state.nd rfl (Or.inl rfl) (pe_op op_add pe_int (pc c_law_drawn hr (by decide) (pa_cons (pv 0) (pa_cons (pv 2) pa_nil)))))
 (pss_one (ps_if (pt_cmpR (k_nin (K := K) rfl) (pv 8) (pv 4) (by rfl)) (pss_cons (ps_expr (pe_bm PySem.F.plainAttrs_list PySem.F.slot_list_append PySem.F.type_list_append mt_append (pv 6) (pa_cons (pv 8) pa_nil)))
 (pss_one (ps_expr (pe_bm PySem.F.plainAttrs_list PySem.F.slot_list_append PySem.F.type_list_append mt_append (pv 4) (pa_cons (pv 8) pa_nil))))) pss_nil))))
 (pss_one (ps_expr (pe_bm PySem.F.plainAttrs_list PySem.F.slot_list_append PySem.F.type_list_append mt_append (pv 3) (pa_cons (pe_callTy (T := "tuple") (k_tuple (K := K) rfl) (by rfl) A.b_tuple (by decide +kernel) (pa_cons (pv 6) pa_nil)) pa_nil)))))))
 (pss_one (ps_ret (pe_tup (pa_cons (pe_op op_add (pe_op op_add (pe_callB (id := "max") (k_max (K := K) rfl rfl) (by rfl) A.b_max (by decide +kernel) (pa_cons (pe_op op_cat (pv 4) (pe_lst (pa_cons pe_int pa_nil))) pa_nil)) pe_int) (pc c_law_drawn hr (by decide) (pa_cons (pv 0) (pa_cons pe_int pa_nil)))) (pa_cons (pe_callTy (T := "tuple") (k_tuple (K := K) rfl) (by rfl) A.b_tuple (by decide +kernel) (pa_cons (pv 3) pa_nil)) pa_nil))))))), ?_⟩
    walk_at "begin"
    refine i_I ⟨by decide, by decide, by decide⟩ ?_
    walk_at "go"
    refine st_newL st (by simp) fun l nl st => ?_
    walk_at "go"
    refine st_drawn (L := [(l, .lst [.int 12, .int 99, .int (10 ^ (19 : Int).toNat)])]) st hS (by decide) (by decide) fun x0 i m r H x00 x01 st => ?_
    walk_at "go"
    obtain ⟨v, hv, hm⟩ := atI_mem (xs := [V.int 12, V.int 99, V.int (10 ^ (19 : Int).toNat)]) x00 (by simpa using x01)
    refine i_ixL (by walk_at "sq") hv ?_
    have st := st.picks [0] (by decide) (L' := dL h a i m r []) rfl
    obtain ⟨hi, rfl, f1, f8⟩ : ∃ hi : Int, v = .int hi ∧ 1 ≤ hi ∧ hi ≤ 10000000000000000000 := by
      simp only [List.mem_cons, List.not_mem_nil, or_false] at hm
      rcases hm with rfl | rfl | rfl
      · exact ⟨12, rfl, by decide, by decide⟩
      · exact ⟨99, rfl, by decide, by decide⟩
      · exact ⟨_, rfl, by decide, by decide⟩
    walk_at "go"
    refine st_newL st (by simp) fun ql nql st => ?_
    walk_at "go"
    refine st_newL st (by simp) fun ul nul st => ?_
    refine ⟨_, _, _, rfl, ?_⟩
    walk_at "go"
    refine ⟨na, rfl, ⟨_, (st.pers 0 rfl : TupAt K _ na xs).sq⟩, ForIt.go (walk_tup (xs := xs)) (fun j σ H => ∃ s5 s6 s7 s8 i m r vs qs, σ = [some (.ref h), some (.ref na), some (.int hi), some (.ref ql), some (.ref ul), s5, s6, s7, s8] ∧ qs.length = j ∧ Dwn net hi qs ∧
      Stt [h] H0 (dL h a i m r [(ql, .lst vs), (ul, .lst (iV qs.flatten))]) [fun H => TupAt K H na xs, fun H => DtAll K H xs (net.map seatsD), fun H => DtAll K H vs (qs.map intsD)] H) ⟨_, _, _, _, i, m, r, [], [], rfl, rfl, .nil, st.know .nil Pers.all⟩ (fun j σ H _ p => ?_) ?_ ?_⟩
    · obtain ⟨_, _, _, _, _, _, _, _, _, _, _, _, st⟩ := p
      exact (st.pers 0 rfl : TupAt K _ na xs).sq
    · clear st
      rintro j v σ H H' hj ⟨s5, s6, s7, s8, i, m, r, vs, qs, rfl, hql, dw, st⟩ ⟨rfl, hx1⟩
      obtain ⟨seats, sa, hse, rfl, hsa⟩ := net_at (st.pers 1 rfl : DtAll K _ xs (net.map seatsD)) hx1
      obtain ⟨z1, z8⟩ := ok.size j seats hse
      have hj : j < net.length := (List.getElem?_eq_some_iff.mp hse).1
      have hfl := dw.flat_le ok (by omega)
      have hvl : vs.length = qs.length := by rw [(st.pers 2 rfl : DtAll K _ vs (qs.map intsD)).len, List.length_map]
      have st := st.know (φ := fun H => TupAt K H sa (seats.map kV)) hsa Pers.tup
      walk_at "go"
      refine st_newL st (by simp) fun q2 nq2 st => ?_
      walk_at "go"
      refine i_lenT (xs := seats.map kV) (st.pers 3 rfl : TupAt K _ sa _).sq ?_
      rw [List.length_map]
      walk_at "go"
      refine st_drawn st hS (by omega) (by omega) fun x1 i m r H x10 x11 st => ?_
      walk_at "go"
      obtain ⟨sn, hsn⟩ : ∃ sn : Nat, x1 = sn := ⟨x1.toNat, by omega⟩
      subst hsn
      refine ⟨_, rfl, by omega, by omega, ForIt.go walk_range (fun q σ H => ∃ s7 s8 i m r qq, σ = [some (.ref h), some (.ref na), some (.int hi), some (.ref ql), some (.ref ul), some (.ref sa), some (.ref q2), s7, s8] ∧ qq.length ≤ q ∧ (qs.flatten ++ qq).Nodup ∧ (∀ p ∈ qq, 1 ≤ p ∧ p ≤ hi) ∧
        Stt [h] H0 (dL h a i m r [(ql, .lst vs), (ul, .lst (iV (qs.flatten ++ qq))), (q2, .lst (iV qq))]) [fun H => TupAt K H na xs, fun H => DtAll K H xs (net.map seatsD), fun H => DtAll K H vs (qs.map intsD), fun H => TupAt K H sa (seats.map kV)] H) ⟨_, _, i, m, r, [], rfl, Nat.le_refl _, by rw [List.append_nil]; exact dw.nd, fun p h => by simp at h, by rw [List.append_nil]; exact st⟩ (fun _ _ _ _ _ => trivial) ?_ ?_⟩
      · clear st
        rintro q v σ H H' hq ⟨s7, s8, i, m, r, qq, rfl, hqq, nd, rg, st⟩ ⟨rfl, rfl⟩
        have hq : q < sn := by omega
        walk_at "go"
        refine st_drawn st hS (by omega) (by omega) fun x2 i m r H x20 x21 st => ?_
        walk_at "go"
        refine ⟨ul, iV (qs.flatten ++ qq), rfl, .inl (by walk_at "sq"), rfl, by unfold iV; rw [List.all_map]; exact List.all_eq_true.mpr fun _ _ => rfl, ?_⟩
        rw [if_pos rfl, inV_iV]
        by_cases hm : 1 + x2 ∈ qs.flatten ++ qq
        · rw [decide_eq_true hm]
          walk_at "go"
          refine iteF ?_
          walk_at "go"
          exact ⟨_, _, i, m, r, qq, rfl, by omega, nd, rg, st⟩
        · rw [decide_eq_false hm]
          walk_at "go"
          refine iteT ?_
          walk_at "go"
          refine i_tyL (xs := iV qq) (by walk_at "sq") ?_
          walk_at "go"
          refine st_append st 3 rfl (by rw [iV_len]; omega) fun H st => ?_
          walk_at "go"
          refine i_tyL (xs := iV (qs.flatten ++ qq)) (by walk_at "sq") ?_
          walk_at "go"
          refine st_append st 2 rfl (by rw [iV_len, List.length_append]; omega) fun H st => ?_
          have e1 : iV (qs.flatten ++ (qq ++ [1 + x2])) = iV (qs.flatten ++ qq) ++ [V.int (1 + x2)] := by unfold iV; rw [← List.append_assoc, List.map_append]; rfl
          have e2 : iV (qq ++ [1 + x2]) = iV qq ++ [V.int (1 + x2)] := by unfold iV; rw [List.map_append]; rfl
          refine ⟨_, _, i, m, r, qq ++ [1 + x2], rfl, by rw [List.length_append, List.length_singleton]; omega, ?_, fun p hp => ?_, by rw [e1, e2]; exact st⟩
          · rw [← List.append_assoc]
            refine List.nodup_append.mpr ⟨nd, by simp, fun y hy z hz e => ?_⟩
            rw [List.mem_singleton.mp hz] at e
            exact hm (e ▸ hy)
          · rcases List.mem_append.mp hp with hp | hp
            · exact rg p hp
            · rw [List.mem_singleton.mp hp]; omega
      · clear st
        rintro σ H ⟨s7, s8, i, m, r, qq, rfl, hqq, nd, rg, st⟩
        walk_at "go"
        refine i_tyL (xs := vs) (by walk_at "sq") ?_
        walk_at "go"
        refine st_tupleL st (ys := iV qq) (by walk_at "sq") fun tp H' ntp st => ?_
        walk_at "go"
        refine st_append st 1 rfl (by omega) fun H st => ?_
        have d1 : DtAll K H vs (qs.map intsD) := st.pers 2 rfl
        have d2 : TupAt K H tp (iV qq) := st.pers 4 rfl
        refine ⟨_, _, _, _, i, m, r, vs ++ [.ref tp], qs ++ [qq], rfl, by rw [List.length_append, hql]; rfl, dw.snoc (by rw [hql]; exact hse) (by omega) nd rg, ?_⟩
        have st := st.picks [0, 1, 2] (by decide) (L' := dL h a i m r [(ql, .lst (vs ++ [.ref tp])), (ul, .lst (iV (qs.flatten ++ qq)))]) rfl
        rw [List.flatten_append, List.flatten_singleton]
        refine (st.only (P' := [fun H => TupAt K H na xs, fun H => DtAll K H xs (net.map seatsD)]) [0, 1] rfl).know (φ := fun H => DtAll K H (vs ++ [.ref tp]) ((qs ++ [qq]).map intsD)) ?_ Pers.all
        rw [List.map_append]
        exact d1.snoc (.tup d2 (DtAll.of_ints qq))
    · clear st
      rintro σ H ⟨s5, s6, s7, s8, i, m, r, vs, qs, rfl, hql, dw, st⟩
      have hql : qs.length = net.length := by omega
      have hfl := dw.flat_le ok (by omega)
      have hvl : vs.length = qs.length := by rw [(st.pers 2 rfl : DtAll K _ vs (qs.map intsD)).len, List.length_map]
      walk_at "go"
      refine st_newL st (by simp) fun zl nzl st => ?_
      refine st_cat (zs := [V.int 0]) st (st.at 2 rfl) (st.at 3 rfl) (by rw [iV_len, List.length_singleton]; omega) fun cl H2 ncl e2 st => ?_
      walk_at "go"
      refine ⟨cl, qs.flatten ++ [0], rfl, SqL.of (by rw [List.map_append]; exact st.at 4 rfl), by simp, fun mx hmx hle => ?_⟩
      have hmx0 : 0 ≤ mx := hle 0 (List.mem_append_right _ (by simp))
      have hmx1 : mx ≤ hi := by
        rcases List.mem_append.mp hmx with hm | hm
        · exact (dw.rg mx hm).2
        · rw [List.mem_singleton.mp hm]; omega
      have st := st.picks [0, 1] (by decide) (L' := dL h a i m r [(ql, .lst vs)]) rfl
      walk_at "go"
      refine st_drawn st hS (by decide) (by decide) fun x2 i m r H x20 x21 st => ?_
      walk_at "go"
      refine st_tupleL st (ys := vs) (by walk_at "sq") fun qt H3 nqt st => ?_
      walk_at "go"
      refine st_newT K st (by simp) fun sv nsv st => ?_
      refine k _ (mx + 1 + x2) qs _ (.tup (st.pers 4 rfl) (.cons (.int _) (.cons (.tup (st.pers 3 rfl) (st.pers 2 rfl)) .nil))) ⟨by omega, hql, dw.sh, dw.nd, fun p hp => ?_⟩ ?_ st.exB (st.dr hS)
      · have h1 := dw.rg p hp
        have h2 := hle p (List.mem_append_left _ hp)
        omega
      · have : (128 : Int) ^ 10 = 1180591620717411303424 := by decide
        omega
end
end Fb

namespace Fb
open PySem PySem.Spec PyProof.Rows L2 PySem.HandSPX
/-! ### [_law_error(f) for f in fs], fs lambdas made here -/
/-- what is never reached -/
theorem pss_no {X : Cx} {ss : List Stmt} : PSs X ss (fun _ _ _ => False) := ⟨fun _ _ _ _ _ _ h => h.elim⟩
theorem k_slL {X : Cx} {K : PySem.W.Frag} (h : X.K = K) : SlR X (rSlL K) := h ▸ sl_list
theorem wipe_one {σ : L2.St} {i : Nat} {x : Option V} : wipe ((wipe σ [i]).set i x) [i] = wipe σ [i] := by
  show ((σ.set i none).set i x).set i none = σ.set i none
  rw [List.set_set, List.set_set]
theorem wipe_at {σ : L2.St} {i : Nat} {x : Option V} (h : i < σ.length) : ((wipe σ [i]).set i x)[i]? = some x := by
  show ((σ.set i none).set i x)[i]? = some x
  rw [List.set_set, List.getElem?_set_self h]
section
variable {K : PySem.W.Frag} {B : List Addr} {H0 H : Hp} {L : List (Addr × HO)} {P : List (Hp → Prop)}
theorem Stt.psub {P' : List (Hp → Prop)} (s : Stt B H0 L P H) (h : ∀ φ ∈ P', φ ∈ P) : Stt B H0 L P' H :=
  ⟨s.ex, s.own, s.mu, s.fr, s.nd, fun φ m => s.ps φ (h φ m), fun φ m => s.pp φ (h φ m), s.tk⟩
/-- what the lambda at f yields, in any state of the walk: o -/
def Out2 (K : PySem.W.Frag) (q : Str) (env : Env) (σ : L2.St) (Cs : List Addr) (B : List Addr) (H0 : Hp) (L : List (Addr × HO)) (P : List (Hp → Prop)) (ds : List (LamD × (XK → TE))) (f : Addr) (o : PyData) : Prop :=
  ∃ (j : Nat) (d : LamD) (t : XK → TE), ds[j]? = some (d, t) ∧ LamAt q (cloFrom env.cells d.scope.names []) d f ∈ P ∧ ∀ (H : Hp) (Q : VK), Stt B H0 L P H → (∀ v H2, Same H H2 → Dt K H2 v o → Q v H2) → TOut K Cs (fun E H' Q' => t E σ H' Q') H Q
theorem paired_at {α β : Type} {F : α → β → Prop} : ∀ {xs : List α} {ys : List β}, Paired F xs ys → ∀ {i : Nat} {x : α}, xs[i]? = some x → ∃ y, ys[i]? = some y ∧ F x y
  | _, _, .nil, i, x, e => by simp at e
  | _, _, .cons h r, i, x, e => by
    cases i with
    | zero =>
      cases e
      exact ⟨_, rfl, h⟩
    | succ i => exact paired_at r (i := i) (by simpa using e)
theorem paired_len {α β : Type} {F : α → β → Prop} : ∀ {xs : List α} {ys : List β}, Paired F xs ys → xs.length = ys.length
  | _, _, .nil => rfl
  | _, _, .cons _ r => by simp [paired_len r]
theorem i_lamV {Q : VK} {T : List (Addr × Str)} {q : Str} {cl : List (Str × Addr)} {d : LamD} {σ : L2.St} (h : LamX.Tabs T H ∧ ∀ (f : Addr) (H1 : Hp), LamX.ExtN H H1 → LamX.Tabs T H1 → LamAt q cl d f H1 → Q (.ref f) H1) : tLamV T q cl d σ H Q := h
/-- a class without attributes -/
theorem out_w2 {Cs : List Addr} {o : PyData} {Q : VK} {H H1 : Hp} {j : Nat} {C : Addr} {w : Str} (ho : o = .tuple [.str w]) (h1 : Cs[j]? = some C) (h2 : outNames[j]? = some w) (h3 : outAttrs[j]? = some []) (k : ∀ v H2, Same H H2 → Dt K H2 v o → Q v H2) (e : Same H H1) : OutEch K Cs Q (.ref C) none H1 :=
  ⟨j, C, w, [], [], h1, rfl, h2, h3, .inl ⟨rfl, rfl, rfl⟩, fun p H2 e2 hp => k _ _ (fun a u h => e2 a u (e a u h)) (by subst ho; exact .tup hp (.cons (.str _) .nil))⟩
theorem out_net2 {Cs : List Addr} {o : PyData} {Q : VK} {H H1 : Hp} {d C : Addr} {s t : Int} (ho : o = .tuple [.str "InvalidNetwork", .int s, .int t]) (h1 : Cs[5]? = some C) (k : ∀ v H2, Same H H2 → Dt K H2 v o → Q v H2) (e : Same H H1) (nd : H1 d = none) : OutEch K Cs Q (.ref C) (some d) (upd H1 d (.xd [("seat", .int t), ("station", .int s)])) :=
  ⟨5, C, "InvalidNetwork", ["station", "seat"], [.int s, .int t], h1, rfl, rfl, rfl, .inr ⟨by simp, d, _, rfl, upd_same, rfl⟩, fun p H2 e2 hp => k _ _ (fun a u h => e2 a u (Same.new nd a u (e a u h))) (by subst ho; exact .tup hp (.cons (.str _) (.cons (.int _) (.cons (.int _) .nil))))⟩
theorem out_data2 {Cs : List Addr} {o : PyData} {Q : VK} {H H1 : Hp} {d C : Addr} {n : Int} (ho : o = .tuple [.str "InvalidData", .int n]) (h1 : Cs[2]? = some C) (k : ∀ v H2, Same H H2 → Dt K H2 v o → Q v H2) (e : Same H H1) (nd : H1 d = none) : OutEch K Cs Q (.ref C) (some d) (upd H1 d (.xd [("offset", .int n)])) :=
  ⟨2, C, "InvalidData", ["offset"], [.int n], h1, rfl, rfl, rfl, .inr ⟨by simp, d, _, rfl, upd_same, rfl⟩, fun p H2 e2 hp => k _ _ (fun a u h => e2 a u (Same.new nd a u (e a u h))) (by subst ho; exact .tup hp (.cons (.str _) (.cons (.int _) .nil)))⟩
theorem i_tout {Cs : List Addr} {H : Hp} {Q : VK} {tl : (XK → Hp → VK → Prop)} (h : tl (OutEch K Cs Q) H Q) : TOut K Cs tl H Q := h
theorem works_go2 {σ : L2.St} {Cs fs : List Addr} {wl : Addr} {ic : Nat} {q : Str} {env : Env} {ds : List (LamD × (XK → TE))} {os : List PyData} {Q : VK} (st : Stt B H0 L P H) (iw : Nat) (hw : L[iw]? = some (wl, .lst (fs.map V.ref))) (hz : fs.length ≤ 1000)
    (out : Paired (Out2 K q env σ Cs B H0 L P ds) fs os) (hic : ic < σ.length)
    (k : ∀ D vs H', Stt B H0 (L ++ [(D, .lst vs)]) P H' → DtAll K H' vs os → Q (.ref D) H') : LcIt (Itl K wl) (gName ic) tYes (tCallV q env ic ds (TOut K Cs) σ) [ic] σ H Q := by
  have hfl := paired_len out
  refine LcIt.go (walk_list (xs := fs.map V.ref)) (fun D i H => ∃ vs : List V, vs.length = i ∧ Stt B H0 (L ++ [(D, .lst vs)]) (P ++ [fun H => DtAll K H vs (os.take i)]) H) (fun D hD => ⟨[], rfl, ?_⟩) (fun D i H _ p => ?_) ?_ ?_
  · exact (st.new (o := .lst []) hD trivial).know (φ := fun H => DtAll K H [] (os.take 0)) .nil Pers.all
  · obtain ⟨vs, _, st⟩ := p
    exact SqL.of (st.own (wl, .lst (fs.map V.ref)) (List.mem_append_left _ (List.mem_of_getElem? hw)))
  · rintro D i x H1 H' hi ⟨vs, hvl, st⟩ ⟨rfl, hx⟩
    have hi' : i < fs.length := by rw [List.length_map] at hi; exact hi
    rw [List.getElem?_map] at hx
    cases hf : fs[i]? with
    | none => rw [hf] at hx; cases hx
    | some f =>
      rw [hf] at hx
      obtain rfl := Option.some.inj hx
      obtain ⟨o, ho, j, d, t, hj, hm, run⟩ := paired_at out hf
      refine i_name ⟨wipe_one, i_yes ?_⟩
      rw [if_pos rfl]
      have st0 : Stt B H0 L P H' := (st.psub (P' := P) fun φ m => List.mem_append_left _ m).sub (List.sublist_append_left _ _)
      have hL : LamAt q (cloFrom env.cells d.scope.names []) d f H' := st0.ps _ hm
      refine ⟨j, d, t, f, hj, wipe_at hic, hL, hL, ?_⟩
      refine run H' _ st0 fun v H2 e hv => ?_
      have st := (st.ext e).know (φ := fun H => DtAll K H (vs ++ [v]) (os.take (i + 1))) (by
        rw [List.take_succ, ho]
        exact ((st.ext e).ps (fun H => DtAll K H vs (os.take i)) (by simp)).snoc hv) Pers.all
      have hD : (L ++ [(D, HO.lst vs)])[L.length]? = some (D, .lst vs) := by rw [List.getElem?_append_right (Nat.le_refl _), Nat.sub_self]; rfl
      refine ⟨vs, st.at L.length hD, sz_lt (by omega), vs ++ [v], by rw [List.length_append, hvl]; rfl, ?_⟩
      have st := st.set L.length hD (o' := .lst (vs ++ [v])) trivial
      have e : (L ++ [(D, HO.lst vs)]).set L.length (D, .lst (vs ++ [v])) = L ++ [(D, .lst (vs ++ [v]))] := by
        rw [List.set_append_right _ _ (Nat.le_refl _), Nat.sub_self]
        rfl
      rw [e] at st
      exact st.psub fun φ m => by
        rcases List.mem_append.mp m with m | m
        · exact List.mem_append_left _ (List.mem_append_left _ m)
        · exact List.mem_append_right _ m
  · rintro D H' ⟨vs, hvl, st⟩
    have e : os.take (fs.map V.ref).length = os := List.take_of_length_le (by rw [List.length_map]; omega)
    rw [e] at st
    exact k D vs H' (st.psub fun φ m => List.mem_append_left _ m) (st.ps (fun H => DtAll K H vs os) (by simp))
theorem ne_lists {a b : Addr} {xs ys : List V} {ds : List PyData} {Q : VK} (hx : SqL K H a xs) (hy : SqL K H b ys) (dx : DtAll K H xs ds) (dy : DtAll K H ys ds) (sh : SeqAt.shaped (.list ds) = true) (er : PyData.eqv (.list ds) (.list ds) = true) (q : Q (.bl false) H) : rNeD K (.ref a) (.ref b) H Q := by
  refine ⟨.list ds, .list ds, .lst hx (Dt.dpAll _ _ dx), .lst hy (Dt.dpAll _ _ dy), sh, sh, ?_⟩
  rw [er]
  exact q
theorem DtAll.append {xs ys : List V} {ds es : List PyData} (h : DtAll K H xs ds) (k : DtAll K H ys es) : DtAll K H (xs ++ ys) (ds ++ es) := by
  induction ds generalizing xs with
  | nil => cases h; exact k
  | cons d ds ih =>
    cases h with
    | cons h1 h2 => exact .cons h1 (ih h2)
theorem DtAll.rep {v : V} {d : PyData} (h : Dt K H v d) : ∀ n, DtAll K H (List.replicate n v) (List.replicate n d)
  | 0 => .nil
  | n + 1 => .cons h (DtAll.rep h n)
end
end Fb

namespace Fb
open PySem PySem.Spec PyProof.Rows L2
/-- the law's own def where it holds lambdas: its code object c, that one's table Pt -/
theorem fn_lawL {P : Program} {w : World} {K : PySem.W.Frag} {mg : Str → Option Value} {base : Heap} {st : Stmt} {f c Pt : Addr} {oc : Value} {od an : Option Addr} {osl : Array (Option Value)} {kV doc pm ct : Value} {N : List Str} {x : Str} {k : Nat} {sp : Sp}
    (lk : K.lookup f = some ⟨oc, od, .func (PySem.W.fnOf "law" "law" (defArgs st) (defBody st) (defScope st) .none kV doc pm an (.ref c) ct), osl⟩) (hcd : PySem.W.codeIn K (.ref c) "law" = true) (TB : LamX.TabB base mg c Pt) (m1 : (Pt, lamQ "law") ∈ tabT) (m2 : ∀ p ∈ tabT, p.1 = Pt → p.2 = lamQ "law") (S : FnScope N [x] (defScope st))
    (len : ∀ vs H Q E, sp vs H Q E → vs.length = 1)
    (hbody : ∀ (A : Around) (outer : List Env) (s : Shared) (H : Hp) (vs : List V) (Q : VK) (E : XK), Room k (A.deeper (envOfC "law" (defScope st) s.heap.objs.size f (.ref c))) → LamOk (cxOf (L2.CX P w) P w K mg base N "law" (defScope st) f (.ref c) A outer s H E).nox "law" → sp vs H Q E →
      ∃ t, PSs (cxOf (L2.CX P w) P w K mg base N "law" (defScope st) f (.ref c) A outer s H E).nox (defBody st) t ∧ t { nx := fun _ H' => Q .non H', rt := Q } (start N vs) H) :
    FnOk P w K mg base (L2.CX P w) (k + 1) f (PySem.W.fnOf "law" "law" (defArgs st) (defBody st) (defScope st) .none kV doc pm an (.ref c) ct) [x] sp :=
  fn_of lk hcd S len fun A outer s H vs Q E hr hsp => by
    obtain ⟨t, p, q⟩ := hbody A outer s H vs Q E hr ⟨c, Pt, TB, rfl, m1, m2, rfl⟩ hsp
    exact ⟨t, p.nox, q⟩
end Fb

namespace Fb
open PySem PySem.Spec PyProof.Rows L2 PySem.HandSPX
theorem ErrN.at {mg : Str → Option Value} : ∀ {xs : List Str} {Cs : List Addr} {i : Nat} {x : Str} {C : Addr}, ErrN mg xs Cs → xs[i]? = some x → Cs[i]? = some C → mg x = some (.ref C)
  | _, _, 0, _, _, .cons h _, e1, e2 => by
    cases e1
    cases e2
    exact h
  | _, _, i + 1, _, _, .cons _ r, e1, e2 => ErrN.at (i := i) r e1 e2
theorem OwnC.of {K : PySem.W.Frag} {mg : Str → Option Value} {F C : Addr} {Cs : List Addr} (Er : ErrO K mg F Cs) (h : C ∈ Cs) (e : PySem.W.excIn K C veTail "ValueError.__new__" = true) : OwnC K C := by
  have h1 := (errTab_get Er.t h).1
  unfold errOne at h1
  simp only [Bool.and_eq_true, decide_eq_true_eq] at h1
  obtain ⟨⟨⟨⟨⟨⟨⟨⟨⟨h1, h2⟩, h3⟩, _⟩, _⟩, _⟩, _⟩, _⟩, _⟩, _⟩ := h1
  exact ⟨h1, e, h2, h3⟩
/-- a def with a lambda, its code object c, that one's table P: what does not change -/
structure LPre (K : PySem.W.Frag) (mg : Str → Option Value) (x : Str) (st : Stmt) (c P : Addr) : Prop where
  ex : ∃ (f : Addr) (oc : Value) (od : Option Addr) (kV doc pm : Value) (an : Option Addr) (ct : Value) (osl : Array (Option Value)),
    K.lookup f = some ⟨oc, od, .func (PySem.W.fnOf x x (defArgs st) (defBody st) (defScope st) .none kV doc pm an (.ref c) ct), osl⟩ ∧ PySem.W.codeIn K (.ref c) x = true ∧ PySem.W.keepIn K (.ref f) = true ∧ mg x = some (.ref f) ∧ (P, lamQ x) ∈ tabT ∧ ∀ p ∈ tabT, p.1 = P → p.2 = lamQ x
theorem LPre.mk' {K : PySem.W.Frag} {h : Heap} {mg : Str → Option Value} {x : Str} {st : Stmt} {f c P : Addr} {oc : Value} {od an : Option Addr} {osl : Array (Option Value)} {kV doc pm ct : Value} (X : K.In h) (G : h.Ns mainGlobals mg)
    (a : PySem.W.nsIn K mainGlobals x = some (some (.ref f)))
    (l : K.lookup f = some ⟨oc, od, .func (PySem.W.fnOf x x (defArgs st) (defBody st) (defScope st) .none kV doc pm an (.ref c) ct), osl⟩)
    (cd : PySem.W.codeIn K (.ref c) x = true) (k : PySem.W.keepIn K (.ref f) = true) (m1 : (P, lamQ x) ∈ tabT) (m2 : ∀ p ∈ tabT, p.1 = P → p.2 = lamQ x) : LPre K mg x st c P :=
  ⟨f, oc, od, kV, doc, pm, an, ct, osl, l, cd, k, PySem.W.mg_of X G a, m1, m2⟩
theorem LPre.def {K : PySem.W.Frag} {mg : Str → Option Value} {base : Heap} {x : Str} {st : Stmt} {c P : Addr} (l : LPre K mg x st c P) (t : LamX.TabB base mg c P) : LDef K mg base x st := by
  obtain ⟨f, oc, od, kV, doc, pm, an, ct, osl, h1, h2, h3, h4, h5, h6⟩ := l.ex
  exact ⟨f, c, P, oc, od, kV, doc, pm, an, ct, osl, h1, h2, h3, h4, t, h5, h6⟩
theorem InetK.mk' {K : PySem.W.Frag} {mg : Str → Option Value} {C f D : Addr} {oc : Value} {od an : Option Addr} {osl : Array (Option Value)} {kV doc pm cdv ct : Value} (mgC : mg "InvalidNetwork" = some (.ref C)) (a : PySem.W.findIn K (.ref C) "__init__" = some (some (.ref f)))
    (l : K.lookup f = some ⟨oc, od, .func (PySem.W.fnOf "__init__" "InvalidNetwork.__init__" (defArgs s_InvalidNetwork___init) (defBody s_InvalidNetwork___init) (defScope s_InvalidNetwork___init) .none kV doc pm an cdv ct), osl⟩)
    (c : PySem.W.codeIn K cdv "InvalidNetwork.__init__" = true) (k : PySem.W.keepIn K (.ref f) = true) (o : oexAll K C f ["station", "seat"] = true) (m : mg "FerryError" = some (.ref D))
    (s : PySem.W.specialIn K (.ref D) "__getattribute__" = some (some (.builtin "type.__getattribute__"))) (r : PySem.W.readsIn K D (.type "type") = true) (fc : PySem.W.findCls K (.ref D) (.type "type") "__init__" = some (.val (.builtin "ValueError.__init__"))) : InetK K mg C :=
  ⟨mgC, f, D, _, fun_mk l c k, oexAll_ok o, ⟨m, s, r, fc⟩⟩
end Fb

namespace Fb
open PySem PySem.Spec PyProof.Rows L2
/-! ### data that are alike -/
theorem inV_int (s : Int) : ∀ l : List Int, inV (.int s) (iV l) = decide (s ∈ l)
  | [] => by simp [inV, iV]
  | x :: l => by
    have ih := inV_int s l
    unfold inV iV at ih ⊢
    rw [List.map_cons, List.any_cons, ih]
    have e : eqV (.int x) (.int s) = (x == s) := rfl
    rw [e, Bool.eq_iff_iff]
    simp only [Bool.or_eq_true, beq_iff_eq, decide_eq_true_eq, List.mem_cons]
    constructor
    · rintro (h | h)
      · exact .inl h.symm
      · exact .inr h
    · rintro (h | h)
      · exact .inl h.symm
      · exact .inr h
theorem flat_ints (l : List Int) : (iV l).all flatV = true := by
  unfold iV
  rw [List.all_map]
  exact List.all_eq_true.mpr fun _ _ => rfl
theorem flat_strs (l : List Str) : (l.map V.str).all flatV = true := by
  rw [List.all_map]
  exact List.all_eq_true.mpr fun _ _ => rfl
section
variable {K : PySem.W.Frag} {H : Hp}
theorem al_int {n : Nat} {i : Int} : AlV K H (n + 1) (.int i) (.int i) := .inl ⟨rfl, rfl⟩
theorem al_str {n : Nat} {i : Str} : AlV K H (n + 1) (.str i) (.str i) := .inl ⟨rfl, rfl⟩
theorem al_ints {n : Nat} {x y : V} {ns : List Int} (hx : Dt K H x (intsD ns)) (hy : Dt K H y (intsD ns)) (hl : ns.length ≤ 90000) : AlV K H (n + 2) x y := by
  obtain ⟨a, xs, rfl, ha, hxs⟩ := hx.tup_inv
  obtain ⟨b, ys, rfl, hb, hys⟩ := hy.tup_inv
  obtain rfl := hxs.ints
  obtain rfl := hys.ints
  refine .inr (.inl ⟨false, a, b, iV ns, iV ns, rfl, rfl, ha.sq, hb.sq, by rw [iV_len]; exact hl, ?_⟩)
  clear hx hy ha hb hxs hys hl
  induction ns with
  | nil => exact .nil
  | cons x r ih => exact .cons al_int ih
theorem al_qs {n : Nat} {qs : List (List Int)} (hq : ∀ q ∈ qs, q.length ≤ 90000) {xs ys : List V} (hx : DtAll K H xs (qs.map intsD)) (hy : DtAll K H ys (qs.map intsD)) : Paired (AlV K H (n + 2)) xs ys := by
  induction qs generalizing xs ys with
  | nil => cases hx; cases hy; exact .nil
  | cons q qs ih =>
    cases hx with
    | cons h1 h2 =>
      cases hy with
      | cons h3 h4 => exact .cons (al_ints h1 h3 (hq q (by simp))) (ih (fun q h => hq q (by simp [h])) h2 h4)
theorem al_st {n : Nat} {x y : V} {m : Int} {qs : List (List Int)} (hx : Dt K H x (stD m qs)) (hy : Dt K H y (stD m qs)) (hq : ∀ q ∈ qs, q.length ≤ 90000) (hl : qs.length ≤ 90000) : AlV K H (n + 4) x y := by
  obtain ⟨a, q1, xs, rfl, ha, hq1, hx1⟩ := st_inv hx
  obtain ⟨b, q2, ys, rfl, hb, hq2, hy1⟩ := st_inv hy
  refine .inr (.inl ⟨false, a, b, _, _, rfl, rfl, ha.sq, hb.sq, by simp, .cons al_int (.cons (.inr (.inl ⟨false, q1, q2, xs, ys, rfl, rfl, hq1.sq, hq2.sq, by rw [hx1.len, List.length_map]; exact hl, al_qs hq hx1 hy1⟩)) .nil)⟩)
end
end Fb

namespace Fb
open PySem PySem.Spec PyProof.Rows L2
/-! ### networks that are alike -/
section
variable {K : PySem.W.Frag} {H : Hp}
theorem al_key {n : Nat} (k : Key) : AlV K H (n + 1) (kV k) (kV k) := by
  cases k with
  | inl i => exact al_int
  | inr x => exact al_str
theorem al_seats {n : Nat} {x y : V} {ks : List Key} (hx : Dt K H x (seatsD ks)) (hy : Dt K H y (seatsD ks)) (hl : ks.length ≤ 90000) : AlV K H (n + 2) x y := by
  obtain ⟨a, xs, rfl, ha, hxs⟩ := hx.tup_inv
  obtain ⟨b, ys, rfl, hb, hys⟩ := hy.tup_inv
  obtain rfl := hxs.keys
  obtain rfl := hys.keys
  refine .inr (.inl ⟨false, a, b, ks.map kV, ks.map kV, rfl, rfl, ha.sq, hb.sq, by rw [List.length_map]; exact hl, ?_⟩)
  clear hx hy ha hb hxs hys hl
  induction ks with
  | nil => exact .nil
  | cons x r ih => exact .cons (al_key x) ih
theorem al_nets {n : Nat} {net : List (List Key)} (hq : ∀ q ∈ net, q.length ≤ 90000) {xs ys : List V} (hx : DtAll K H xs (net.map seatsD)) (hy : DtAll K H ys (net.map seatsD)) : Paired (AlV K H (n + 2)) xs ys := by
  induction net generalizing xs ys with
  | nil => cases hx; cases hy; exact .nil
  | cons q qs ih =>
    cases hx with
    | cons h1 h2 =>
      cases hy with
      | cons h3 h4 => exact .cons (al_seats h1 h3 (hq q (by simp))) (ih (fun q h => hq q (by simp [h])) h2 h4)
theorem al_net {n : Nat} {x y : V} {net : List (List Key)} (hx : Dt K H x (netD net)) (hy : Dt K H y (netD net)) (hl : net.length ≤ 90000) (hq : ∀ q ∈ net, q.length ≤ 90000) : AlV K H (n + 3) x y := by
  obtain ⟨a, xs, rfl, ha, hxs⟩ := hx.tup_inv
  obtain ⟨b, ys, rfl, hb, hys⟩ := hy.tup_inv
  exact .inr (.inl ⟨false, a, b, xs, ys, rfl, rfl, ha.sq, hb.sq, by rw [hxs.len, List.length_map]; exact hl, al_nets hq hxs hys⟩)
end
end Fb

namespace Fb
open PySem PySem.Spec PyProof.Rows L2
theorem canLay_ints (ns : List Int) : PyData.canLayAll0 (ns.map PyData.int) = true := by
  induction ns with
  | nil => rfl
  | cons n ns ih => simp only [List.map_cons, PyData.canLayAll0, PyData.canLay0, ih, Bool.and_self]
theorem depth_ints (ns : List Int) : PyData.depthAll (ns.map PyData.int) = 0 := by
  induction ns with
  | nil => rfl
  | cons n ns ih => simp only [List.map_cons, PyData.depthAll, PyData.depth, ih, Nat.max_self]
theorem shaped_ints (ns : List Int) : SeqAt.shaped (.list (ns.map PyData.int)) = true := by
  unfold SeqAt.shaped
  simp only [PyData.canLay0, PyData.depth, canLay_ints, depth_ints]
  rfl
theorem eqv_nil (ns : List Int) : PyData.eqv (.list (ns.map PyData.int)) (.list []) = decide (ns = []) := by
  cases ns with
  | nil => rfl
  | cons n ns => simp [PyData.eqv, PyData.eqvAll]
theorem DpAll.ints {K : PySem.W.Frag} {H : Hp} (ns : List Int) : DpAll K H (iV ns) (ns.map PyData.int) := by
  induction ns with
  | nil => exact .nil
  | cons n ns ih => exact .cons (.int n) ih
/-- xs == [], a list of ints -/
theorem i_eqNil {K : PySem.W.Frag} {H : Hp} {a b : Addr} {ns : List Int} {Q : VK} (ha : SqL K H a (iV ns)) (hb : SqL K H b []) (q : Q (.bl (decide (ns = []))) H) : rEqD K (.ref a) (.ref b) H Q :=
  ⟨_, _, .lst ha (DpAll.ints ns), .lst hb .nil, shaped_ints ns, rfl, by rw [eqv_nil]; exact q⟩
theorem eqv_ints (ns : List Int) : PyData.eqvAll (ns.map PyData.int) (ns.map PyData.int) = true := by
  induction ns with
  | nil => simp [PyData.eqvAll]
  | cons n ns ih => simp [PyData.eqvAll, PyData.eqv, ih]
theorem canLay_qs (qs : List (List Int)) : PyData.canLayAll0 (qs.map intsD) = true := by
  induction qs with
  | nil => rfl
  | cons q qs ih => simp only [List.map_cons, intsD, PyData.canLayAll0, PyData.canLay0, canLay_ints, ih, Bool.and_self]
theorem depth_qs (qs : List (List Int)) : PyData.depthAll (qs.map intsD) ≤ 1 := by
  induction qs with
  | nil => simp [PyData.depthAll]
  | cons q qs ih =>
    simp only [List.map_cons, PyData.depthAll, intsD, PyData.depth, depth_ints]
    omega
theorem eqv_qs (qs : List (List Int)) : PyData.eqvAll (qs.map intsD) (qs.map intsD) = true := by
  induction qs with
  | nil => simp [PyData.eqvAll]
  | cons q qs ih => simp [PyData.eqvAll, PyData.eqv, intsD, eqv_ints, ih]
theorem st_shaped (n : Int) (qs : List (List Int)) : SeqAt.shaped (stD n qs) = true := by
  have h := depth_qs qs
  unfold SeqAt.shaped stD queuesD
  simp only [PyData.canLay0, PyData.canLayAll0, canLay_qs, PyData.depth, PyData.depthAll, Bool.and_self, Bool.true_and]
  simp
  omega
theorem st_eqv (n : Int) (qs : List (List Int)) : PyData.eqv (stD n qs) (stD n qs) = true := by
  simp [stD, queuesD, PyData.eqv, PyData.eqvAll, eqv_qs]
end Fb

namespace Fb
open PySem PySem.Spec PyProof.Rows L2 PySem.HandSPX
/-! ### the lambdas that are handed to a call on the spot -/
def lamArg : Nat → Expr → List LamD
  | 0, _ => []
  | n + 1, .Lambda p b s q => lamE (.Lambda p b s q)
  | n + 1, .Call _ es _ _ => es.flatMap (lamArg n)
  | n + 1, .UnaryOp _ e _ => lamArg n e
  | n + 1, .BoolOp _ es _ => es.flatMap (lamArg n)
  | n + 1, .Compare e _ es _ => (e :: es).flatMap (lamArg n)
  | _, _ => []
def lamArgS : Stmt → List LamD
  | .If e _ _ _ => lamArg 6 e
  | .Assign _ e _ => lamArg 6 e
  | .Expr e _ => lamArg 6 e
  | _ => []
def lamArgs : Nat → List Stmt → List LamD
  | 0, _ => []
  | n + 1, ss => ss.flatMap fun s => lamArgS s ++ lamArgs n (inner s)
def lamd_law_1 : LamD := (lamArgs 6 (defBody s_law)).getD 1 default
theorem i_lam {H : Hp} {T : List (Addr × Str)} {TT : (XK → Hp → VK → Prop) → Hp → VK → Prop} {t : XK → TE} {σ : L2.St} {Q : VK} (h : LamX.Tabs T H ∧ ∀ H1, LamX.ExtN H H1 → LamX.Tabs T H1 → TT (fun E H' Q' => t E σ H' Q') H1 Q) : LamX.tLam T TT t σ H Q := h
theorem lbd_law_1 : LamB lamd_law_1 := .one' (a := "_law_a") rfl rfl (fun _ _ _ _ _ _ _ => ⟨_, rfl, fun _ => rfl⟩) rfl
end Fb

namespace Fb
open PySem PySem.Spec PyProof.Rows L2 PySem.HandSPX SX
/-! ### words, numbers, places as texts -/
def digC (c : Nat) : Bool := decide (48 ≤ c) && decide (c ≤ 57)
def letC (c : Nat) : Bool := decide (97 ≤ c) && decide (c ≤ 122)
def digB (l : List Nat) : Bool := !decide (l = []) && l.all digC
def letB (l : List Nat) : Bool := !decide (l = []) && l.all letC
def numW (l : List Nat) : Option Int := if digB l = true ∧ ¬ (l[0]? = some 48 ∧ l ≠ [48]) then some ((NumText.digitsVal l : Nat) : Int) else none
def plcW (l : List Nat) : Option Key := if letB l = true then some (.inr (S l)) else if l.length ≤ 2 then (numW l).map Sum.inl else none
def oK : Option Key → V
  | none => .non
  | some k => kV k
theorem digs_eq : ("0123456789" : Str).cps.toList = (List.range 10).map (· + 48) := by decide +kernel
theorem dig_in (c : Nat) : decide (c ∈ ("0123456789" : Str).cps.toList) = digC c := by
  rw [digs_eq]
  unfold digC
  rw [Bool.eq_iff_iff, decide_eq_true_iff, Bool.and_eq_true, decide_eq_true_iff, decide_eq_true_iff, List.mem_map]
  constructor
  · rintro ⟨i, hi, rfl⟩
    have := List.mem_range.mp hi
    omega
  · intro h
    exact ⟨c - 48, List.mem_range.mpr (by omega), by omega⟩
theorem let_in (c : Nat) : decide (c ∈ ("abcdefghijklmnopqrstuvwxyz" : Str).cps.toList) = letC c := by
  have e : ("abcdefghijklmnopqrstuvwxyz" : Str).cps.toList = (List.range 26).map (· + 97) := by decide +kernel
  rw [e]
  unfold letC
  rw [Bool.eq_iff_iff, decide_eq_true_iff, Bool.and_eq_true, decide_eq_true_iff, decide_eq_true_iff, List.mem_map]
  constructor
  · rintro ⟨i, hi, rfl⟩
    have := List.mem_range.mp hi
    omega
  · intro h
    exact ⟨c - 97, List.mem_range.mpr (by omega), by omega⟩
theorem S_eq_empty {l : List Nat} : (S l = ("" : Str)) ↔ l = [] := by
  constructor
  · intro h
    exact S_inj (h.trans (show ("" : Str) = S [] from rfl))
  · rintro rfl
    rfl
theorem dig_all {l : List Nat} (h : digB l = true) : l ≠ [] ∧ NumText.AllDigits l := by
  unfold digB at h
  rw [Bool.and_eq_true, Bool.not_eq_true', decide_eq_false_iff_not] at h
  refine ⟨h.1, fun c hc => ?_⟩
  have := List.all_eq_true.mp h.2 c hc
  unfold digC at this
  rw [Bool.and_eq_true, decide_eq_true_iff, decide_eq_true_iff] at this
  exact this
theorem int_dig {l : List Nat} (h : digB l = true) (hl : l.length ≤ 640) : intText? (S l) = some ((NumText.digitsVal l : Nat) : Int) := by
  obtain ⟨h1, h2⟩ := dig_all h
  refine int_S (List.all_eq_true.mpr fun c hc => ?_) h1 (by omega)
  have := h2 c hc
  rw [Bool.and_eq_true, decide_eq_true_iff, decide_eq_true_iff]
  exact this
/-! ### numbers written -/
theorem numL_head : ∀ n : Nat, 0 < n → (TL.numL n)[0]? ≠ some 48 := by
  intro n
  induction n using Nat.strongRecOn with
  | _ n ih =>
    intro hn
    by_cases h : n < 10
    · rw [TL.numL_lt h]
      intro e
      have := Option.some.inj e
      omega
    · rw [TL.numL_step (by omega)]
      have hne := TL.numL_ne (n / 10)
      have h0 : 0 < (TL.numL (n / 10)).length := List.length_pos_iff.mpr hne
      rw [List.getElem?_append_left h0]
      exact ih (n / 10) (by omega) (by omega)
theorem numL_dig (n : Nat) : digB (TL.numL n) = true := by
  unfold digB
  rw [Bool.and_eq_true, Bool.not_eq_true', decide_eq_false_iff_not]
  refine ⟨TL.numL_ne n, List.all_eq_true.mpr fun c hc => ?_⟩
  have := TL.numL_digits n c hc
  unfold digC
  rw [Bool.and_eq_true, decide_eq_true_iff, decide_eq_true_iff]
  exact this
theorem numW_num (n : Nat) : numW (TL.numL n) = some (n : Int) := by
  unfold numW
  refine (if_pos ⟨numL_dig n, ?_⟩).trans (by rw [TL.numL_val])
  rintro ⟨h1, h2⟩
  by_cases h0 : 0 < n
  · exact numL_head n h0 h1
  · obtain rfl : n = 0 := by omega
    exact h2 (TL.numL_lt (by decide))
theorem str_num {n : Int} (h : 0 ≤ n) : Str.ofString (toString n) = S (TL.numL n.toNat) := by
  obtain ⟨m, rfl⟩ : ∃ m : Nat, n = m := ⟨n.toNat, by omega⟩
  exact num_S m
/-! ### one sign between two -/
theorem le_one {a c : Nat} : (!decide (([c] : List Nat) < [a])) = decide (a ≤ c) := by
  rw [Bool.eq_iff_iff, Bool.not_eq_true', decide_eq_false_iff_not, decide_eq_true_iff]
  constructor
  · intro h
    by_cases hc : c < a
    · exact absurd (List.Lex.rel hc) h
    · omega
  · intro h1 h2
    cases h2 with
    | rel h => omega
    | cons h => exact nomatch h
end Fb

namespace Fb
open PySem PySem.Spec PyProof.Rows L2 PySem.HandSPX SX
/-! ### comprehensions over a text, lists of texts -/
def Asc (l : List Nat) : Prop := ∀ c ∈ l, c < 128
def AscS (z : Str) : Prop := Asc z.cps.toList
theorem strOk_asc {z : Str} (h : AscS z) : PyData.strOk z = true := by
  unfold PyData.strOk
  rw [← Array.all_toList]
  exact List.all_eq_true.mpr fun c hc => decide_eq_true (Nat.lt_trans (h c hc) (by decide))
theorem lay_strs (ns : List Str) (h : ∀ z ∈ ns, AscS z) : PyData.canLayAll0 (ns.map PyData.str) = true ∧ PyData.depthAll (ns.map PyData.str) = 0 := by
  induction ns with
  | nil => exact ⟨rfl, rfl⟩
  | cons x r ih =>
    obtain ⟨h1, h2⟩ := ih fun q hq => h q (List.mem_cons_of_mem _ hq)
    have h3 := strOk_asc (h x (List.mem_cons_self ..))
    simp only [List.map_cons, PyData.canLayAll0, PyData.canLay0, PyData.depthAll, PyData.depth, h1, h2, h3, Bool.and_self, Nat.max_self, and_self]
theorem shaped_strs (ns : List Str) (h : ∀ z ∈ ns, AscS z) : SeqAt.shaped (.list (ns.map PyData.str)) = true := by
  obtain ⟨h1, h2⟩ := lay_strs ns h
  unfold SeqAt.shaped
  rw [PyData.canLay0, h1, PyData.depth, h2]
  rfl
theorem DpAll.strs {K : PySem.W.Frag} {H : Hp} : ∀ l : List Str, DpAll K H (l.map V.str) (l.map PyData.str)
  | [] => .nil
  | s :: l => .cons (.str s) (DpAll.strs l)
theorem eqv_nilS (ns : List Str) : PyData.eqv (.list (ns.map PyData.str)) (.list []) = decide (ns = []) := by
  cases ns with
  | nil => rfl
  | cons n ns => simp [PyData.eqv, PyData.eqvAll]
theorem i_eqNilS {K : PySem.W.Frag} {H : Hp} {a b : Addr} {ns : List Str} {Q : VK} (hs : ∀ z ∈ ns, AscS z) (ha : SqL K H a (ns.map V.str)) (hb : SqL K H b []) (q : Q (.bl (decide (ns = []))) H) : rEqD K (.ref a) (.ref b) H Q :=
  ⟨_, _, .lst ha (DpAll.strs ns), .lst hb .nil, shaped_strs ns hs, rfl, by rw [eqv_nilS]; exact q⟩
theorem i_neNilS {K : PySem.W.Frag} {H : Hp} {a b : Addr} {ns : List Str} {Q : VK} (hs : ∀ z ∈ ns, AscS z) (ha : SqL K H a (ns.map V.str)) (hb : SqL K H b []) (q : Q (.bl (!decide (ns = []))) H) : rNeD K (.ref a) (.ref b) H Q :=
  ⟨_, _, .lst ha (DpAll.strs ns), .lst hb .nil, shaped_strs ns hs, rfl, by rw [eqv_nilS]; exact q⟩
abbrev onesS (l : List Nat) : List Str := l.map fun c => S [c]
theorem ones_asc {l : List Nat} (h : Asc l) : ∀ z ∈ onesS l, AscS z := fun z hz c hc => by
  obtain ⟨d, hd, rfl⟩ := List.mem_map.mp hz
  have hc : c ∈ [d] := hc
  rw [List.mem_singleton.mp hc]
  exact h d hd
theorem Asc.filter {l : List Nat} {p : Nat → Bool} (h : Asc l) : Asc (l.filter p) := fun c hc => h c (List.mem_filter.mp hc).1
theorem lc_str {g : TG} {tt : TT} {te : TE} {vs : List Nat} {σ : L2.St} {H : Hp} {Q : VK} (p : Nat → Bool) (l : List Nat) (hz : l.length ≤ 100000)
    (hs : ∀ (c : Nat) (H1 : Hp) (N : VK) (M : Hp → Prop), Same H H1 → (p c = true → N (.str (S [c])) H1) → (p c = false → M H1) → g (.str (S [c])) (wipe σ vs) H1 fun σ2 H2 => wipe σ2 vs = wipe σ vs ∧ tt σ2 H2 fun b H3 => if b = true then te σ2 H3 N else M H3)
    (hd : ∀ D H', H D = none → Same H H' → H' D = some (.lst ((onesS (l.filter p)).map V.str)) → Q (.ref D) H') : LcIt (Its (S l)) g tt te vs σ H Q := by
  refine LcIt.go walk_str (fun D i H' => H D = none ∧ Same H H' ∧ H' D = some (.lst ((onesS ((l.take i).filter p)).map V.str))) (fun D hD => ⟨hD, Same.new hD, by rw [upd_same]; rfl⟩) (fun _ _ _ _ _ => trivial) ?_ (fun D H' q => hd D H' q.1 q.2.1 (by
    have e : l.take (S l).cps.size = l := List.take_of_length_le (by simp)
    rw [q.2.2, e]))
  rintro D i x H1 H' hi ⟨p1, p2, p3⟩ ⟨rfl, c, hc, rfl⟩
  have hil : i < l.length := by simpa using hi
  have hc' : l[i]? = some c := by simpa using hc
  have et : l.take (i + 1) = l.take i ++ [c] := by rw [List.take_succ, hc']; rfl
  refine hs c H' _ _ p2 (fun hp => ?_) (fun hp => ?_)
  · refine ⟨_, p3, ?_, p1, fun a o h => by
      rw [upd_ne (ne_of_none h p1)]
      exact p2 a o h, ?_⟩
    · have h1 := List.length_filter_le p (l.take i)
      rw [List.length_take] at h1
      simp only [List.length_map]
      exact sz_lt (by omega)
    · rw [upd_same, et, List.filter_append, List.filter_cons, if_pos hp]
      simp [onesS]
  · refine ⟨p1, p2, ?_⟩
    rw [p3, et, List.filter_append, List.filter_cons, if_neg (by rw [hp]; decide)]
    simp [onesS]
end Fb

namespace Fb
open PySem PySem.Spec PyProof.Rows L2 PySem.HandSPX SX
/-! ### words, numbers, places read -/
def spCons : Sp := fun vs H Q _ => ∃ (l : List Nat) (cs : Str), vs = [.str (S l), .str cs] ∧ l.length ≤ 90000 ∧ ∀ H', Same H H' → Q (.bl (!decide (l = []) && l.all fun c => decide (c ∈ cs.cps.toList))) H'
def spNumW (n : Nat) : Sp := fun vs H Q _ => ∃ l : List Nat, vs = [.str (S l)] ∧ l.length ≤ 640 ∧ Asc l ∧ ∀ H', Same H H' → Q (oI (numW l)) H'
def spPlcW (n : Nat) : Sp := fun vs H Q _ => ∃ l : List Nat, vs = [.str (S l)] ∧ l.length ≤ 640 ∧ Asc l ∧ ∀ H', Same H H' → Q (oK (plcW l)) H'
theorem S_dec {a b : List Nat} : decide (S a = S b) = decide (a = b) := by
  by_cases h : a = b
  · rw [decide_eq_true h, h, decide_eq_true rfl]
  · rw [decide_eq_false h, decide_eq_false fun e => h (S_inj e)]
theorem z_empty : ("" : Str) = S [] := rfl
theorem z_0 : ("0" : Str) = S [48] := by decide +kernel
theorem digB_eq (l : List Nat) : (!decide (l = []) && l.all fun c => decide (c ∈ ("0123456789" : Str).cps.toList)) = digB l := by
  unfold digB
  congr 1
  congr 1
  funext c
  exact dig_in c
theorem letB_eq (l : List Nat) : (!decide (l = []) && l.all fun c => decide (c ∈ ("abcdefghijklmnopqrstuvwxyz" : Str).cps.toList)) = letB l := by
  unfold letB
  congr 1
  congr 1
  funext c
  exact let_in c
theorem z_9 : ("9" : Str) = S [57] := by decide +kernel
theorem z_a : ("a" : Str) = S [97] := by decide +kernel
theorem z_z : ("z" : Str) = S [122] := by decide +kernel
theorem ones_nil {p : Nat → Bool} {l : List Nat} : decide (onesS (l.filter fun c => !p c) = []) = l.all p := by
  rw [Bool.eq_iff_iff, decide_eq_true_iff, List.map_eq_nil_iff, List.filter_eq_nil_iff, List.all_eq_true]
  simp
theorem k_join {X : Cx} {K : PySem.W.Frag} (h : X.K = K) : MtR X "str.join" (fun x xs H Q => ∃ a p, ∃ ys : List Str, x = .str a ∧ xs = [.ref p] ∧ (SqL K H p (ys.map V.str) ∨ SqT K H p (ys.map V.str)) ∧
    (ys.map (·.length)).sum + ys.length * a.length ≤ 16777216 ∧ Q (.str (Txt.join a ys)) H) := h ▸ mt_join
section
variable {P : Program} {w : World} {K : PySem.W.Frag} {mg : Str → Option Value} {base : Heap}
theorem ok_consists_of (A : All K mg) : Cal P w K mg base 1 "consists_of" spCons := by
  refine cal_of A.d_consists_of sc_consists_of (fun _ _ _ _ _ _ us hl => match us, hl with | [_, _], _ => rfl) (fun vs H Q E h => ?_) (fun f cdv A' outer s H vs Q E hr h => ?_)
  · obtain ⟨l, cs, rfl, _⟩ := h
    rfl
  · obtain ⟨l, cs, rfl, hl, k⟩ := h
    refine ⟨_, (pss_one (ps_ret (pe_and (pe_cmpR op_ne (pv 0) pe_str (nomark _)) (pe_one (pe_callB (id := "all") (k_all (K := K) rfl rfl) (by rfl) A.b_all (by decide +kernel) (pa_cons (pe_lc rfl sc_consists_of.nd (pi_str (pv 0)) (blkOk_by (own := [("character", 2)]) (N := ["text", "characters", "character"]) (sc := defScope s_consists_of) (by decide +kernel)) (fun _ _ _ _ _ => (pg_name (i := 2) sc_consists_of.nd rfl (Or.inl rfl))) (fun _ _ _ _ _ => pts_nil) (fun _ _ _ _ _ => (pe_cmpR op_inC (pv 2) (pv 1) (by rfl)))) pa_nil)))))), ?_⟩
    have st : Stt [] H [] [] H := Stt.init H
    walk_at "begin"
    rw [z_empty, S_dec]
    by_cases he : l = []
    · rw [decide_eq_true he] at k ⊢
      refine iteF ?_
      exact k _ st.same
    · rw [decide_eq_false he] at k ⊢
      refine iteT ?_
      walk_at "go"
      refine ⟨S l, rfl, LcIt.map (J := Its (S l)) walk_str (l.map fun c => V.bl (decide (c ∈ cs.cps.toList))) (by simp) (sz_lt (by rw [show (S l).cps.size = l.length by simp]; omega)) (fun _ _ => trivial) ?_ ?_⟩
      · rintro m v y H1 H' N hm hy e1 ⟨rfl, c, hc, rfl⟩ q
        walk_at "go"
        refine ⟨rfl, ?_⟩
        walk_at "go"
        rw [List.getElem?_map] at hy
        have hc' : l[m]? = some c := by simpa using hc
        rw [hc'] at hy
        obtain rfl : V.bl (decide (c ∈ cs.cps.toList)) = y := Option.some.inj hy
        exact q _ (Same.refl _)
      · intro D H' hD e1 e2
        walk_at "go"
        refine i_all (bs := l.map fun c => decide (c ∈ cs.cps.toList)) (SqL.of (by rw [e2, List.map_map]; rfl)) ?_
        have e : (!false && l.all fun c => decide (c ∈ cs.cps.toList)) = (l.map fun c => decide (c ∈ cs.cps.toList)).all id := by
          rw [List.all_map]
          rfl
        rw [← e]
        exact k _ e1
theorem ok_parse_number (A : All K mg) (c_consists_of : Cal P w K mg base 1 "consists_of" spCons) : Cal P w K mg base 2 "parse_number" (spNumW 2) := by
  obtain ⟨_, h_DIGITS⟩ := A.c_DIGITS
  refine cal_of A.d_parse_number sc_parse_number (fun _ _ _ _ _ _ us hl => match us, hl with | [_], _ => rfl) (fun vs H Q E h => ?_) (fun f cdv A' outer s H vs Q E hr h => ?_)
  · obtain ⟨l, rfl, _⟩ := h
    rfl
  · obtain ⟨l, rfl, hl, hasc, k⟩ := h
    refine ⟨_, (pss_cons (ps_if (PW.pt (pw_or (pt_not (pt_val (pc c_consists_of hr (by decide) (pa_cons (pv 0) (pa_cons (pe_glob (v := .str "0123456789") rfl h_DIGITS ⟨_, rfl⟩) pa_nil))))) (pw_or1 (PW.pt (pw_and (pt_cmpR op_eq (pe_ix ix_str (pv 0) pe_int (fun _ _ => rfl)) pe_str (nomark _)) (pw_and1 (pt_cmpR op_ne (pv 0) pe_str (nomark _)))))))) (pss_one (ps_ret pe_non)) pss_nil)
 (pss_one (ps_ret (pe_callTy (T := "int") call_int_str (by rfl) A.b_int (by decide +kernel) (pa_cons (pv 0) pa_nil))))), ?_⟩
    walk_at "begin"
    refine ⟨l, "0123456789", rfl, by omega, fun H1 e1 => ⟨_, rfl, ?_⟩⟩
    rw [digB_eq]
    by_cases hd : digB l = true
    · rw [hd]
      refine iteF ?_
      obtain ⟨hne, hal⟩ := dig_all hd
      obtain ⟨c, r, rfl⟩ := List.exists_cons_of_ne_nil hne
      walk_at "go"
      refine ⟨S (c :: r), 0, c, rfl, rfl, sz_of (by rw [S_len]; omega), by simp [atI, ixN], ?_⟩
      walk_at "go"
      rw [z_0, show (⟨#[c]⟩ : Str) = S [c] from rfl, S_dec]
      have fin : ¬ ((c :: r)[0]? = some 48 ∧ (c :: r) ≠ [48]) → ∀ {σ : L2.St}, σ[0]? = some (some (.str (S (c :: r)))) → tRet (tCB (fun xs H Q => ∃ a n, xs = [V.str a] ∧ intText? a = some n ∧ a.length ≤ 640 ∧ Q (V.int n) H) (tCons (tVar 0) tNil)) { nx := fun x H' => Q V.non H', rt := Q } σ H1 := by
        intro hn σ h0
        walk_at "go"
        refine i_var h0 ?_
        walk_at "go"
        refine ⟨_, _, rfl, int_dig hd hl, by rw [S_len]; exact hl, ?_⟩
        have e : numW (c :: r) = some ((NumText.digitsVal (c :: r) : Nat) : Int) := if_pos ⟨hd, hn⟩
        rw [e] at k
        exact k _ e1
      by_cases hc : c = 48
      · subst hc
        rw [decide_eq_true rfl]
        refine iteT ?_
        walk_at "go"
        rw [S_dec]
        by_cases hr : (48 :: r) = [48]
        · rw [decide_eq_true hr]
          refine iteF ?_
          refine i_next ?_
          exact fin (fun h => h.2 hr) rfl
        · rw [decide_eq_false hr]
          refine iteT ?_
          walk_at "go"
          have e : numW (48 :: r) = none := if_neg fun h => h.2 ⟨rfl, hr⟩
          rw [e] at k
          exact k _ e1
      · rw [decide_eq_false (fun h => hc (List.cons.inj h).1)]
        refine iteF ?_
        refine iteF ?_
        refine i_next ?_
        exact fin (fun h => hc (Option.some.inj h.1)) rfl
    · rw [Bool.not_eq_true] at hd
      rw [hd]
      refine iteT ?_
      refine iteT ?_
      walk_at "go"
      have e : numW l = none := if_neg fun h => by rw [hd] at h; exact nomatch h.1
      rw [e] at k
      exact k _ e1
theorem ok_parse_place (A : All K mg) (c_consists_of : Cal P w K mg base 1 "consists_of" spCons) (c_parse_number : Cal P w K mg base 2 "parse_number" (spNumW 2)) : Cal P w K mg base 3 "parse_place" (spPlcW 3) := by
  obtain ⟨_, h_LETTERS⟩ := A.c_LETTERS
  obtain ⟨_, h_MAX_STATION_DIGITS⟩ := A.c_MAX_STATION_DIGITS
  refine cal_of A.d_parse_place sc_parse_place (fun _ _ _ _ _ _ us hl => match us, hl with | [_], _ => rfl) (fun vs H Q E h => ?_) (fun f cdv A' outer s H vs Q E hr h => ?_)
  · obtain ⟨l, rfl, _⟩ := h
    rfl
  · obtain ⟨l, rfl, hl, hasc, k⟩ := h
    refine ⟨_, (pss_cons (ps_if (pt_val (pc c_consists_of hr (by decide) (pa_cons (pv 0) (pa_cons (pe_glob (v := .str "abcdefghijklmnopqrstuvwxyz") rfl h_LETTERS ⟨_, rfl⟩) pa_nil)))) (pss_one (ps_ret (pv 0))) pss_nil)
 (pss_one (ps_ret (pe_ifExp (pt_cmpR op_le (pe_callB (id := "len") (k_len (K := K) rfl) (by rfl) A.b_len (by decide +kernel) (pa_cons (pv 0) pa_nil)) (pe_glob (v := .int 2) rfl h_MAX_STATION_DIGITS ⟨_, rfl⟩) (nomark _)) (pc c_parse_number hr (by decide) (pa_cons (pv 0) pa_nil)) pe_non)))), ?_⟩
    walk_at "begin"
    refine ⟨l, "abcdefghijklmnopqrstuvwxyz", rfl, by omega, fun H1 e1 => ⟨_, rfl, ?_⟩⟩
    rw [letB_eq]
    by_cases hd : letB l = true
    · rw [hd]
      refine iteT ?_
      walk_at "go"
      have e : plcW l = some (.inr (S l)) := if_pos hd
      rw [e] at k
      exact k _ e1
    · have e : plcW l = if l.length ≤ 2 then (numW l).map Sum.inl else none := if_neg hd
      rw [Bool.not_eq_true] at hd
      rw [hd]
      refine iteF ?_
      walk_at "go"
      refine i_lenS (sz_of (by rw [S_len]; omega)) ?_
      walk_at "go"
      rw [S_len]
      by_cases h2 : l.length ≤ 2
      · rw [decide_eq_true (show (l.length : Int) ≤ 2 by omega)]
        refine iteT ?_
        walk_at "go"
        refine ⟨l, rfl, hl, hasc, fun H2 e2 => ?_⟩
        rw [e, if_pos h2] at k
        have k2 := k H2 fun a o h => e2 a o (e1 a o h)
        cases hn : numW l with
        | none => rw [hn] at k2; exact k2
        | some n => rw [hn] at k2; exact k2
      · rw [decide_eq_false (show ¬ (l.length : Int) ≤ 2 by omega)]
        refine iteF ?_
        walk_at "go"
        rw [e, if_neg h2] at k
        exact k _ e1
theorem ok_law_integer (A : All K mg) : Cal P w K mg base 1 "_law_integer" (spNumW 1) := by
  refine cal_of A.d_law_integer sc_law_integer (fun _ _ _ _ _ _ us hl => match us, hl with | [_], _ => rfl) (fun vs H Q E h => ?_) (fun f cdv A' outer s H vs Q E hr h => ?_)
  · obtain ⟨l, rfl, _⟩ := h
    rfl
  · obtain ⟨l, rfl, hl, hasc, k⟩ := h
    have hu64 := hr.units
    have st : Stt [] H [] [] H := Stt.init H
    refine ⟨_, (pss_cons (ps_if (PW.pt (pw_or (pt_cmpR op_eq (pv 0) pe_str (nomark _)) (pw_or (pt_cmpR (k_neD (K := K) rfl hu64) (pe_lc rfl sc_law_integer.nd (pi_str (pv 0)) (blkOk_by (own := [("_law_one", 1)]) (N := ["_law_word", "_law_one"]) (sc := defScope s_law_integer) (by decide +kernel)) (fun _ _ _ _ _ => (pg_name (i := 1) sc_law_integer.nd rfl (Or.inl rfl))) (fun _ _ _ _ _ => pts_one (pt_not (pt_chain op_le_str op_le_str pe_str (pv 1) pe_str))) (fun _ _ _ _ _ => (pv 1))) (pe_lst pa_nil) (nomark _)) (pw_or1 (PW.pt (pw_and (pt_cmpR op_gt (pe_callB (id := "len") (k_len (K := K) rfl) (by rfl) A.b_len (by decide +kernel) (pa_cons (pv 0) pa_nil)) pe_int (nomark _)) (pw_and1 (pt_cmpR op_eq (pe_ix ix_str (pv 0) pe_int (fun _ _ => rfl)) pe_str (nomark _))))))))) (pss_one (ps_ret pe_non)) pss_nil)
 (pss_one (ps_ret (pe_callTy (T := "int") call_int_str (by rfl) A.b_int (by decide +kernel) (pa_cons (pv 0) pa_nil))))), ?_⟩
    walk_at "begin"
    rw [z_empty, S_dec]
    by_cases he : l = []
    · rw [decide_eq_true he]
      refine iteT ?_
      refine iteT ?_
      walk_at "go"
      have e : numW l = none := if_neg fun h => (dig_all h.1).1 he
      rw [e] at k
      exact k _ st.same
    · rw [decide_eq_false he]
      refine iteF ?_
      walk_at "go"
      refine ⟨S l, rfl, lc_str (fun c => !digC c) l (by omega) (fun c H1 N M e1 hT hF => ?_) fun D H1 nD e1 hD => ?_⟩
      · walk_at "go"
        refine ⟨rfl, ?_⟩
        walk_at "go"
        refine ⟨"0", S [c], rfl, rfl, _, rfl, ?_⟩
        rw [z_0, show (S [c]).cps.toList = [c] from rfl, show (S [48]).cps.toList = [48] from rfl, le_one]
        by_cases h1 : 48 ≤ c
        · rw [decide_eq_true h1]
          refine iteT ?_
          walk_at "go"
          refine ⟨S [c], "9", rfl, rfl, _, rfl, ?_⟩
          rw [z_9, show (S [c]).cps.toList = [c] from rfl, show (S [57]).cps.toList = [57] from rfl, le_one]
          by_cases h2 : c ≤ 57
          · rw [decide_eq_true h2]
            refine iteF ?_
            exact hF (by unfold digC; rw [decide_eq_true h1, decide_eq_true h2]; rfl)
          · rw [decide_eq_false h2]
            refine iteT ?_
            walk_at "go"
            exact hT (by unfold digC; rw [decide_eq_true h1, decide_eq_false h2]; rfl)
        · rw [decide_eq_false h1]
          refine iteF ?_
          refine ⟨_, rfl, ?_⟩
          refine iteT ?_
          walk_at "go"
          exact hT (by unfold digC; rw [decide_eq_false h1]; rfl)
      · have st := st.fresh nD e1 hD trivial
        refine st_newL st (by simp) fun zl nzl st => ?_
        refine i_neNilS (ones_asc hasc.filter) (st.sqL 0 rfl) (st.sqL 1 rfl) ⟨_, rfl, ?_⟩
        rw [ones_nil]
        by_cases ha : l.all digC = true
        · have hd : digB l = true := by
            unfold digB
            rw [ha, decide_eq_false he]
            rfl
          rw [ha]
          refine iteF ?_
          obtain ⟨c, r, rfl⟩ := List.exists_cons_of_ne_nil he
          walk_at "go"
          refine i_lenS (sz_of (by rw [S_len]; omega)) ?_
          rw [S_len]
          walk_at "go"
          have fin : ¬ ((c :: r)[0]? = some 48 ∧ (c :: r) ≠ [48]) → ∀ {σ : L2.St} {H2 : Hp}, Same H H2 → σ[0]? = some (some (.str (S (c :: r)))) → tRet (tCB (fun xs H Q => ∃ a n, xs = [V.str a] ∧ intText? a = some n ∧ a.length ≤ 640 ∧ Q (V.int n) H) (tCons (tVar 0) tNil)) { nx := fun x H' => Q V.non H', rt := Q } σ H2 := by
            intro hn σ H2 e2 h0
            walk_at "go"
            refine i_var h0 ?_
            walk_at "go"
            refine ⟨_, _, rfl, int_dig hd hl, by rw [S_len]; exact hl, ?_⟩
            have e : numW (c :: r) = some ((NumText.digitsVal (c :: r) : Nat) : Int) := if_pos ⟨hd, hn⟩
            rw [e] at k
            exact k _ e2
          by_cases h1 : 1 < (c :: r).length
          · rw [decide_eq_true (show (1 : Int) < ((c :: r).length : Int) by omega)]
            refine iteT ?_
            walk_at "go"
            refine ⟨S (c :: r), 0, c, rfl, rfl, sz_of (by rw [S_len]; omega), by simp [atI, ixN], ?_⟩
            walk_at "go"
            rw [z_0, show (⟨#[c]⟩ : Str) = S [c] from rfl, S_dec]
            by_cases hc : c = 48
            · subst hc
              rw [decide_eq_true rfl]
              refine iteT ?_
              walk_at "go"
              have e : numW (48 :: r) = none := if_neg fun h => h.2 ⟨rfl, fun e => by rw [e] at h1; exact absurd h1 (by decide)⟩
              rw [e] at k
              exact k _ st.same
            · rw [decide_eq_false (fun h => hc (List.cons.inj h).1)]
              refine iteF ?_
              refine i_next ?_
              exact fin (fun h => hc (Option.some.inj h.1)) st.same rfl
          · rw [decide_eq_false (show ¬ (1 : Int) < ((c :: r).length : Int) by omega)]
            refine iteF ?_
            refine iteF ?_
            refine i_next ?_
            refine fin (fun h => h.2 ?_) st.same rfl
            cases r with
            | nil => rw [Option.some.inj h.1]
            | cons x r => exact absurd (show 1 < (c :: x :: r).length by simp) h1
        · have e : numW l = none := if_neg fun h => ha (by have := h.1; unfold digB at this; rw [Bool.and_eq_true] at this; exact this.2)
          rw [Bool.not_eq_true] at ha
          rw [ha]
          refine iteT ?_
          refine iteT ?_
          walk_at "go"
          rw [e] at k
          exact k _ st.same
theorem ok_law_place (A : All K mg) (c_law_integer : Cal P w K mg base 1 "_law_integer" (spNumW 1)) : Cal P w K mg base 2 "_law_place" (spPlcW 2) := by
  refine cal_of A.d_law_place sc_law_place (fun _ _ _ _ _ _ us hl => match us, hl with | [_], _ => rfl) (fun vs H Q E h => ?_) (fun f cdv A' outer s H vs Q E hr h => ?_)
  · obtain ⟨l, rfl, _⟩ := h
    rfl
  · obtain ⟨l, rfl, hl, hasc, k⟩ := h
    have hu64 := hr.units
    have st : Stt [] H [] [] H := Stt.init H
    refine ⟨_, (pss_cons (ps_if (PW.pt (pw_and (pt_cmpR op_ne (pv 0) pe_str (nomark _)) (pw_and1 (pt_cmpR (k_eqD (K := K) rfl hu64) (pe_lc rfl sc_law_place.nd (pi_str (pv 0)) (blkOk_by (own := [("_law_one", 1)]) (N := ["_law_word", "_law_one"]) (sc := defScope s_law_place) (by decide +kernel)) (fun _ _ _ _ _ => (pg_name (i := 1) sc_law_place.nd rfl (Or.inl rfl))) (fun _ _ _ _ _ => pts_one (pt_not (pt_chain op_le_str op_le_str pe_str (pv 1) pe_str))) (fun _ _ _ _ _ => (pv 1))) (pe_lst pa_nil) (nomark _))))) (pss_one (ps_ret (pv 0))) pss_nil)
 (pss_one (ps_ret (pe_ifExp (pt_cmpR op_lt (pe_callB (id := "len") (k_len (K := K) rfl) (by rfl) A.b_len (by decide +kernel) (pa_cons (pv 0) pa_nil)) pe_int (nomark _)) (pc c_law_integer hr (by decide) (pa_cons (pv 0) pa_nil)) pe_non)))), ?_⟩
    walk_at "begin"
    rw [z_empty, S_dec]
    have rest : letB l = false → ∀ {σ : L2.St} {H2 : Hp}, Same H H2 → σ[0]? = some (some (.str (S l))) → tRet (tIf (tTest (tOp (rI0 fun i j => V.bl (decide (i < j))) (tCB (rLen K) (tCons (tVar 0) tNil)) (tC (V.int 3)))) (tCall (spNumW 1) [] E0 (tCons (tVar 0) tNil)) (tC V.non)) { nx := fun x H' => Q V.non H', rt := Q } σ H2 := by
      intro hb σ H2 e2 h0
      have e : plcW l = if l.length ≤ 2 then (numW l).map Sum.inl else none := if_neg (by rw [hb]; decide)
      walk_at "go"
      refine i_var h0 ?_
      walk_at "go"
      refine i_lenS (sz_of (by rw [S_len]; omega)) ?_
      rw [S_len]
      walk_at "go"
      by_cases h2 : l.length ≤ 2
      · rw [decide_eq_true (show (l.length : Int) < 3 by omega)]
        refine iteT ?_
        walk_at "go"
        refine i_var h0 ?_
        walk_at "go"
        refine ⟨l, rfl, hl, hasc, fun H3 e3 => ?_⟩
        rw [e, if_pos h2] at k
        have k2 := k H3 fun a o h => e3 a o (e2 a o h)
        cases hn : numW l with
        | none => rw [hn] at k2; exact k2
        | some n => rw [hn] at k2; exact k2
      · rw [decide_eq_false (show ¬ (l.length : Int) < 3 by omega)]
        refine iteF ?_
        walk_at "go"
        rw [e, if_neg h2] at k
        exact k _ e2
    by_cases he : l = []
    · rw [decide_eq_true he]
      refine iteF ?_
      refine iteF ?_
      refine i_next ?_
      exact rest (by unfold letB; rw [decide_eq_true he]; rfl) st.same rfl
    · rw [decide_eq_false he]
      refine iteT ?_
      walk_at "go"
      refine ⟨S l, rfl, lc_str (fun c => !letC c) l (by omega) (fun c H1 N M e1 hT hF => ?_) fun D H1 nD e1 hD => ?_⟩
      · walk_at "go"
        refine ⟨rfl, ?_⟩
        walk_at "go"
        refine ⟨"a", S [c], rfl, rfl, _, rfl, ?_⟩
        rw [z_a, show (S [c]).cps.toList = [c] from rfl, show (S [97]).cps.toList = [97] from rfl, le_one]
        by_cases h1 : 97 ≤ c
        · rw [decide_eq_true h1]
          refine iteT ?_
          walk_at "go"
          refine ⟨S [c], "z", rfl, rfl, _, rfl, ?_⟩
          rw [z_z, show (S [c]).cps.toList = [c] from rfl, show (S [122]).cps.toList = [122] from rfl, le_one]
          by_cases h2 : c ≤ 122
          · rw [decide_eq_true h2]
            refine iteF ?_
            exact hF (by unfold letC; rw [decide_eq_true h1, decide_eq_true h2]; rfl)
          · rw [decide_eq_false h2]
            refine iteT ?_
            walk_at "go"
            exact hT (by unfold letC; rw [decide_eq_true h1, decide_eq_false h2]; rfl)
        · rw [decide_eq_false h1]
          refine iteF ?_
          refine ⟨_, rfl, ?_⟩
          refine iteT ?_
          walk_at "go"
          exact hT (by unfold letC; rw [decide_eq_false h1]; rfl)
      · have st := st.fresh nD e1 hD trivial
        refine st_newL st (by simp) fun zl nzl st => ?_
        refine i_eqNilS (ones_asc hasc.filter) (st.sqL 0 rfl) (st.sqL 1 rfl) ⟨_, rfl, ?_⟩
        rw [ones_nil]
        have hb : letB l = l.all letC := by
          unfold letB
          rw [decide_eq_false he]
          rfl
        by_cases ha : l.all letC = true
        · rw [ha]
          refine iteT ?_
          walk_at "go"
          have e : plcW l = some (.inr (S l)) := if_pos (hb.trans ha)
          rw [e] at k
          exact k _ st.same
        · rw [Bool.not_eq_true] at ha
          rw [ha]
          refine iteF ?_
          refine i_next ?_
          exact rest (hb.trans ha) st.same rfl
end
end Fb

namespace Fb
open PySem PySem.Spec PyProof.Rows L2 PySem.HandSPX SX
/-! ### a network's text read -/
abbrev spl1 (c : Nat) (l : List Nat) : List (List Nat) := TL.spl [c] 0 [] l
theorem split1 {c : Nat} (hc : c < 256) (l : List Nat) : Txt.split (S l) (S [c]) = (spl1 c l).map S := split_S (by simp) (by simp [hc])
theorem i_tyX {K : PySem.W.Frag} {H : Hp} {z : Str} {N : Prop} (n : N) : tyV K "str" (.str z) H ∧ N := ⟨rfl, n⟩
theorem z_nl : ("\n" : Str) = S [10] := by decide +kernel
theorem z_sp : (" " : Str) = S [32] := by decide +kernel
theorem spl_pos : ∀ (c k : Nat) (l acc : List Nat), TL.spl [c] k acc l ≠ []
  | c, 0, [], acc => by simp [TL.spl]
  | c, k + 1, [], acc => by simp [TL.spl]
  | c, 0, x :: l, acc => by
    rw [TL.spl]
    split
    · simp
    · exact spl_pos c 0 l (acc ++ [x])
  | c, k + 1, x :: l, acc => by
    rw [TL.spl]
    exact spl_pos c k l acc
/-- a text that is not too large for what the program does -/
structure TxOk (l : List Nat) : Prop where
  len : l.length ≤ 90000
  rows : (spl1 10 l).length ≤ 900
  row : ∀ r ∈ spl1 10 l, r.length ≤ 90000 ∧ (spl1 32 r).length ≤ 160 ∧ ∀ w ∈ spl1 32 r, w.length ≤ 640 ∧ Asc w
def rowN (r : List Nat) : List (Option Key) := (spl1 32 r).map plcW
def rowsN (l : List Nat) : List (List (Option Key)) := (spl1 10 l).map rowN
def netN (l : List Nat) : List (List Key) := (rowsN l).map fun r => r.filterMap id
def noneB (r : List (Option Key)) : Bool := r.any Option.isNone
def noneAt (l : List Nat) : Option Nat := (rowsN l).findIdx? noneB
theorem inV_none (r : List (Option Key)) : inV .non (r.map oK) = noneB r := by
  unfold inV noneB
  rw [List.any_map]
  congr 1
  funext o
  cases o with
  | none => rfl
  | some k => cases k <;> rfl
theorem flat_oK (r : List (Option Key)) : (r.map oK).all flatV = true := by
  rw [List.all_map]
  refine List.all_eq_true.mpr fun x _ => ?_
  cases x with
  | none => rfl
  | some k => cases k <;> rfl
theorem some_row {r : List (Option Key)} (h : noneB r = false) : r.map oK = (r.filterMap id).map kV := by
  induction r with
  | nil => rfl
  | cons x r ih =>
    unfold noneB at h
    rw [List.any_cons, Bool.or_eq_false_iff] at h
    cases x with
    | none => exact nomatch h.1
    | some k =>
      rw [List.map_cons, ih h.2]
      rfl
theorem findIdx_pre {α : Type} {p : α → Bool} {l : List α} {i : Nat} {x : α} (h : ∀ (j : Nat) (y : α), j < i → l[j]? = some y → p y = false) (e : l[i]? = some x) (hp : p x = true) : l.findIdx? p = some i := by
  rw [List.findIdx?_eq_some_iff_getElem]
  have hi := (List.getElem?_eq_some_iff.mp e).1
  refine ⟨hi, ?_, fun j hj => ?_⟩
  · rw [(List.getElem?_eq_some_iff.mp e).2]; exact hp
  · rw [h j _ hj (List.getElem?_eq_getElem (by omega))]; simp
theorem findIdx_no {α : Type} {p : α → Bool} {l : List α} (h : ∀ (j : Nat) (y : α), l[j]? = some y → p y = false) : l.findIdx? p = none := by
  rw [List.findIdx?_eq_none_iff]
  intro x hx
  obtain ⟨j, hj⟩ := List.getElem?_of_mem hx
  exact h j x hj
def spPNet (K : PySem.W.Frag) (C0 CT : Addr) : Sp := fun vs H Q E => ∃ l : List Nat, vs = [.str (S l)] ∧ TxOk l ∧
  (match noneAt l with
    | some i => ∀ d H1, Same H H1 → H1 d = none → E (.ref CT) (some d) (upd H1 d (.xd [("row", .int (i : Int))]))
    | none => (badNet (netN l) = none → ∀ v H', Same H H' → Dt K H' v (netD (netN l)) → Q v H') ∧ ∀ st se, badNet (netN l) = some (st, se) → ∀ d H1, Same H H1 → H1 d = none → E (.ref C0) (some d) (upd H1 d (.xd [("seat", .int se), ("station", .int st)])))
theorem TxOk.word {l r : List Nat} (t : TxOk l) (hr : r ∈ spl1 10 l) {w : List Nat} (hw : w ∈ spl1 32 r) : w.length ≤ 640 ∧ Asc w := (t.row r hr).2.2 w hw
theorem netN_wild {l : List Nat} (t : TxOk l) : ∀ (i : Nat) (seats : List Key), (netN l)[i]? = some seats → (∀ k ∈ seats, keyZ k) ∧ seats.length ≤ 100000 := by
  intro i seats h
  unfold netN rowsN rowN at h
  rw [List.getElem?_map, List.getElem?_map] at h
  cases e : (spl1 10 l)[i]? with
  | none => rw [e] at h; cases h
  | some r =>
    rw [e] at h
    obtain rfl := Option.some.inj h
    have hr := List.mem_of_getElem? e
    constructor
    · intro k hk
      obtain ⟨o, ho, hk⟩ := List.mem_filterMap.mp hk
      obtain ⟨w, hw, rfl⟩ := List.mem_map.mp ho
      have h6 := (t.word hr hw).1
      have hk : plcW w = some k := hk
      unfold plcW at hk
      split at hk
      · obtain rfl := Option.some.inj hk
        show (S w).length ≤ 100000
        rw [S_len]
        omega
      · split at hk
        · cases hn : numW w with
          | none => rw [hn] at hk; cases hk
          | some n => rw [hn] at hk; obtain rfl := Option.some.inj hk; trivial
        · cases hk
    · have h1 := List.length_filterMap_le id ((spl1 32 r).map plcW)
      have h2 := (t.row r hr).2.1
      rw [List.length_map] at h1
      show (List.filterMap id ((spl1 32 r).map plcW)).length ≤ _
      omega
section
variable {P : Program} {w : World} {K : PySem.W.Frag} {mg : Str → Option Value} {base : Heap}
theorem ok_parse_network (A : All K mg) {C0 CT : Addr} (KT : KxInvalidText K mg CT) (c_validate_network : Cal P w K mg base 4 "validate_network" (spVNetX K C0)) (c_parse_place : Cal P w K mg base 3 "parse_place" (spPlcW 3)) : Cal P w K mg base 5 "parse_network" (spPNet K C0 CT) := by
  refine cal_ofX A.d_parse_network sc_parse_network (fun _ _ _ _ _ _ us hl => match us, hl with | [_], _ => rfl) (fun vs H Q E h => ?_) (fun f cdv A' outer s H0 vs Q E hr h => ?_)
  · obtain ⟨l, rfl, _⟩ := h
    rfl
  · obtain ⟨l, rfl, tx, k⟩ := h
    have hu64 := hr.units
    have hrows := tx.rows
    refine ⟨_, (pss_cons (ps_set (i := 1) sc_parse_network.nd rfl (Or.inl rfl) (pe_lst pa_nil))
 (pss_cons (ps_for (passes_of rfl) rfl (k_enum (K := K) rfl (by rfl) A.b_enumerate (pa_cons (pe_bm PySem.F.plainAttrs_str PySem.F.slot_str_split PySem.F.type_str_split mt_split (pv 0) (pa_cons pe_str pa_nil)) pa_nil)) (k_tg (K := K) (n := 2) rfl rfl (pgs_cons (pg_name (i := 2) sc_parse_network.nd rfl (Or.inl rfl)) (pgs_cons (pg_name (i := 3) sc_parse_network.nd rfl (Or.inl rfl)) pgs_nil)))
 (pss_cons (ps_setLc (i := 4) rfl sc_parse_network.nd rfl rfl (sw_true rfl rfl rfl (by decide +kernel)) (k_pl (K := K) rfl (pe_bm PySem.F.plainAttrs_str PySem.F.slot_str_split PySem.F.type_str_split mt_split (pv 3) (pa_cons pe_str pa_nil))) (blkOk_by (own := [("word", 6)]) (N := ["text", "stations", "row", "line", "seats", "network", "word"]) (sc := defScope s_parse_network) (by decide +kernel)) (fun _ _ _ _ _ => (pg_name (i := 6) sc_parse_network.nd rfl (Or.inl rfl))) (fun _ _ _ _ _ => pts_nil) (fun _ _ _ _ _ => (pc c_parse_place hr (by decide) (pa_cons (pv 6) pa_nil))))
 (pss_cons (ps_if (pt_cmpR (k_in (K := K) rfl) pe_non (pv 4) (by rfl)) (pss_one (ps_kx_InvalidText KT (hr.mono (by decide)) rfl (takes_of rfl rfl rfl rfl) rfl (pk_cons (pv 2) pk_nil))) pss_nil)
 (pss_one (ps_expr (pe_bm PySem.F.plainAttrs_list PySem.F.slot_list_append PySem.F.type_list_append mt_append (pv 1) (pa_cons (pe_callTy (T := "tuple") (k_tuple (K := K) rfl) (by rfl) A.b_tuple (by decide +kernel) (pa_cons (pv 4) pa_nil)) pa_nil)))))))
 (pss_cons (ps_set (i := 5) sc_parse_network.nd rfl (Or.inl rfl) (pe_callTy (T := "tuple") (k_tuple (K := K) rfl) (by rfl) A.b_tuple (by decide +kernel) (pa_cons (pv 1) pa_nil)))
 (pss_cons (ps_expr (pcX c_validate_network hr (by decide) (takes_of rfl rfl rfl rfl) (pa_cons (pv 5) pa_nil)))
 (pss_one (ps_ret (pv 5))))))), ?_⟩
    have st : Stt [] H0 [] [] H0 := Stt.init H0
    walk_at "begin"
    refine st_newL st (by simp) fun sl nsl st => ?_
    walk_at "go"
    refine i_tyX ?_
    walk_at "go"
    refine ⟨S l, "\n", rfl, rfl, by decide +kernel, sz_of (by rw [S_len]; have := tx.len; omega), fun ll nll => ?_⟩
    rw [z_nl, split1 (by decide)]
    have st := st.new (o := .lst (((spl1 10 l).map S).map V.str)) nll trivial
    walk_at "go"
    refine ⟨true, ll, ((spl1 10 l).map S).map V.str, rfl, sqBL (st.sqL 1 rfl), ForIt.go (walk_enumB (kd := true) (xs := ((spl1 10 l).map S).map V.str)) (fun j σ H => ∃ s2 s3 s4 vs, σ = [some (.str (S l)), some (.ref sl), s2, s3, s4, none, none] ∧ (∀ (q : Nat) (r : List (Option Key)), q < j → (rowsN l)[q]? = some r → noneB r = false) ∧
      Stt [] H0 [(sl, .lst vs), (ll, .lst (((spl1 10 l).map S).map V.str))] [fun H => DtAll K H vs (((netN l).take j).map seatsD)] H) ⟨_, _, _, [], rfl, fun q r h => absurd h (Nat.not_lt_zero q), st.know .nil Pers.all⟩ (fun j σ H _ p => ?_) ?_ ?_⟩
    · obtain ⟨_, _, _, _, _, _, st⟩ := p
      exact sqBL (st.sqL 1 rfl)
    · clear st
      rintro j v σ H H' hj ⟨s2, s3, s4, vs, rfl, hpre, st⟩ ⟨T, x, y, rfl, hT, rfl, hx, hy⟩
      have st := st.newT K hT (xs := [x, y])
      obtain rfl : x = V.int j := (Option.some.inj hx).symm
      have hj : j < (spl1 10 l).length := by simpa using hj
      have er : (spl1 10 l)[j]? = some (spl1 10 l)[j] := List.getElem?_eq_getElem hj
      generalize (spl1 10 l)[j] = r at er
      have hmr := List.mem_of_getElem? er
      obtain ⟨r1, r2, r3⟩ := tx.row r hmr
      have hy : (((spl1 10 l).map S).map V.str)[j]? = some y := hy
      obtain rfl : V.str (S r) = y := by
        rw [List.getElem?_map, List.getElem?_map, er] at hy
        exact Option.some.inj hy
      have ern : (rowsN l)[j]? = some (rowN r) := by
        unfold rowsN
        rw [List.getElem?_map, er]
        rfl
      walk_at "go"
      refine i_gtup (xs := [.int (j : Int), .str (S r)]) (st.pers 1 rfl : TupAt K _ _ _).sq rfl ?_
      walk_at "go"
      refine i_tyX ?_
      walk_at "go"
      refine ⟨S r, " ", rfl, rfl, by decide +kernel, sz_of (by rw [S_len]; omega), fun wl nwl => ?_⟩
      rw [z_sp, split1 (by decide)]
      have st := st.new (o := .lst (((spl1 32 r).map S).map V.str)) nwl trivial
      have st := (st.only (P' := [fun H => DtAll K H vs (((netN l).take j).map seatsD)]) [0] rfl)
      walk_at "go"
      refine ⟨wl, rfl, ⟨_, st.sqL 2 rfl⟩, LcIt.map (walk_list (xs := ((spl1 32 r).map S).map V.str)) ((rowN r).map oK) (by simp [rowN]) (sz_lt (by simp; omega)) (fun H1 e1 => (st.ext e1).sqL 2 rfl) ?_ ?_⟩
      · rintro q v y H1 H2 N hq hy1 e1 ⟨rfl, hx1⟩ hN
        have hq' : q < (spl1 32 r).length := by simpa using hq
        have ew : (spl1 32 r)[q]? = some (spl1 32 r)[q] := List.getElem?_eq_getElem hq'
        generalize (spl1 32 r)[q] = w at ew
        obtain ⟨w1, w2⟩ := r3 w (List.mem_of_getElem? ew)
        have hx1 : (((spl1 32 r).map S).map V.str)[q]? = some v := hx1
        obtain rfl : V.str (S w) = v := by
          rw [List.getElem?_map, List.getElem?_map, ew] at hx1
          exact Option.some.inj hx1
        obtain rfl : oK (plcW w) = y := by
          unfold rowN at hy1
          rw [List.getElem?_map, List.getElem?_map, ew] at hy1
          exact Option.some.inj hy1
        walk_at "go"
        refine ⟨rfl, ?_⟩
        walk_at "go"
        exact ⟨w, rfl, w1, w2, fun H4 e4 => hN H4 e4⟩
      · intro D H2 nD e2 hD
        have st := st.fresh nD e2 hD trivial
        walk_at "go"
        refine ⟨D, (rowN r).map oK, rfl, .inl (st.sqL 3 rfl), rfl, flat_oK _, ?_⟩
        rw [if_neg (by decide), inV_none]
        refine ⟨_, rfl, ?_⟩
        by_cases hb : noneB (rowN r) = true
        · rw [hb]
          refine iteT ?_
          have en : noneAt l = some j := findIdx_pre (fun q y hq hy => hpre q y hq hy) ern hb
          rw [en] at k
          unfold tMkOK
          walk_at "go"
          exact kx_sp fun d nd => k d _ st.same nd
        · rw [Bool.not_eq_true] at hb
          rw [hb]
          refine iteF ?_
          walk_at "go"
          refine i_tyL (xs := vs) (st.sqL 0 rfl) ?_
          walk_at "go"
          refine st_tupleL st (ys := (rowN r).map oK) (st.sqL 3 rfl) fun tp H3 ntp st => ?_
          walk_at "go"
          have hvl : vs.length = j := by
            rw [(st.pers 0 rfl : DtAll K _ vs _).len, List.length_map, List.length_take]
            have : (netN l).length = (spl1 10 l).length := by simp [netN, rowsN]
            omega
          refine st_append st 0 rfl (by omega) fun H4 st => ?_
          have d1 : DtAll K H4 vs (((netN l).take j).map seatsD) := st.pers 0 rfl
          have d2 : TupAt K H4 tp ((rowN r).map oK) := st.pers 1 rfl
          rw [some_row hb] at d2
          have en : (netN l)[j]? = some ((rowN r).filterMap id) := by
            unfold netN
            rw [List.getElem?_map, ern]
            rfl
          refine ⟨_, _, _, vs ++ [.ref tp], rfl, fun q y hq hy => ?_, ?_⟩
          · rcases Nat.lt_succ_iff_lt_or_eq.mp hq with hq | hq
            · exact hpre q y hq hy
            · rw [hq] at hy
              rw [← Option.some.inj (ern.symm.trans hy)]
              exact hb
          · refine ((st.picks [0, 1] (by decide) (L' := [(sl, .lst (vs ++ [.ref tp])), (ll, .lst (((spl1 10 l).map S).map V.str))]) rfl).forget).know (φ := fun H => DtAll K H (vs ++ [.ref tp]) (((netN l).take (j + 1)).map seatsD)) ?_ Pers.all
            rw [List.take_succ, en, List.map_append]
            exact d1.snoc (.tup d2 (DtAll.of_keys _))
    · clear st
      rintro σ H ⟨s2, s3, s4, vs, rfl, hpre, st⟩
      have en : noneAt l = none := findIdx_no fun q y hy => hpre q y (by
        have := (List.getElem?_eq_some_iff.mp hy).1
        simpa [rowsN] using this) hy
      rw [en] at k
      obtain ⟨k1, k2⟩ := k
      have hlen : (netN l).length = (spl1 10 l).length := by simp [netN, rowsN]
      rw [show (netN l).take (((spl1 10 l).map S).map V.str).length = netN l from List.take_of_length_le (by simp [hlen])] at st
      walk_at "go"
      refine st_tupleL st (ys := vs) (st.sqL 0 rfl) fun tv H1 ntv st => ?_
      have hd : Dt K H1 (.ref tv) (netD (netN l)) := .tup (st.pers 1 rfl) (st.pers 0 rfl)
      have st := st.know (φ := fun H => Dt K H (.ref tv) (netD (netN l))) hd Pers.dt
      walk_at "go"
      refine ⟨.ref tv, netN l, rfl, hd, netN_wild tx, by omega, fun hb H2 e2 => ?_, fun st' se hb d H2 e2 nd => ?_⟩
      · have st := st.ext e2
        walk_at "go"
        exact k1 hb _ _ st.same (st.pers 2 rfl)
      · exact k2 st' se hb d H2 (st.ext e2).same nd
end
end Fb

namespace Fb
open PySem PySem.Spec PyProof.Rows L2 PySem.HandSPX SX
/-! ### the law's own reading of a network's text -/
def wrongB (n i : Nat) : Key → Bool
  | .inl p => !(decide ((i : Int) < p) && decide (p < n))
  | .inr z => decide (8 < z.length)
def wordK : Key → Prop
  | .inl _ => True
  | .inr z => 1 ≤ z.length ∧ z.cps.toList.all letterB = true ∧ z.length ≤ 90000
theorem wrong_plc {n i : Nat} {k : Key} (h : wordK k) : wrongB n i k = !plcB n i k := by
  cases k with
  | inl p => rfl
  | inr z =>
    obtain ⟨h1, h2, _⟩ := h
    show decide (8 < z.length) = !(decide (1 ≤ z.length) && decide (z.length ≤ 8) && z.cps.toList.all letterB)
    rw [h2, decide_eq_true h1]
    by_cases h8 : z.length ≤ 8
    · rw [decide_eq_true h8, decide_eq_false (by omega)]; rfl
    · rw [decide_eq_false h8, decide_eq_true (by omega)]; rfl
def oP : Option (Int × Int) → PyData
  | none => .none
  | some (a, b) => .tuple [.int a, .int b]
def spLInv (K : PySem.W.Frag) : Sp := fun vs H Q _ => ∃ (nv : V) (net : List (List Key)), vs = [nv] ∧ Dt K H nv (netD net) ∧ net ≠ [] ∧ net.length ≤ 900 ∧ (∀ seats ∈ net, seats.length ≤ 900 ∧ ∀ k ∈ seats, wordK k) ∧ ∀ v H', Same H H' → Dt K H' v (oP (badNet net)) → Q v H'
section
variable {P : Program} {w : World} {K : PySem.W.Frag} {mg : Str → Option Value} {base : Heap}
theorem ok_law_invalid (A : All K mg) : Cal P w K mg base 1 "_law_invalid" (spLInv K) := by
  refine cal_of A.d_law_invalid sc_law_invalid (fun _ _ _ _ _ _ us hl => match us, hl with | [_], _ => rfl) (fun vs H Q E h => ?_) (fun f cdv A' outer s H0 vs Q E hr h => ?_)
  · obtain ⟨nv, net, rfl, _⟩ := h
    rfl
  · obtain ⟨nv, net, rfl, hn, hne, hlen, hw, k⟩ := h
    obtain ⟨na, xs, rfl, hna, hxs⟩ := hn.tup_inv
    have hxl : xs.length = net.length := by rw [hxs.len, List.length_map]
    have eB : badNet net = (List.range net.length).findSome? (badF net) := by unfold badNet; rw [if_neg hne]
    refine ⟨_, (pss_cons (ps_for PassesOwn.never rfl (pi_range1 (by rfl) A.b_range (pa_cons (pe_callB (id := "len") (k_len (K := K) rfl) (by rfl) A.b_len (by decide +kernel) (pa_cons (pv 0) pa_nil)) pa_nil)) (pg_name (i := 1) sc_law_invalid.nd rfl (Or.inl rfl))
 (pss_cons (ps_if (PW.pt (pw_or (pt_cmpR op_eq (pv 1) pe_int (nomark _)) (pw_or1 (pt_not (pt_chain op_le op_le pe_int (pe_callB (id := "len") (k_len (K := K) rfl) (by rfl) A.b_len (by decide +kernel) (pa_cons (pe_ix (k_ixT (K := K) rfl) (pv 0) (pv 1) (fun _ _ => rfl)) pa_nil)) pe_int))))) (pss_one (ps_ret (pe_tup (pa_cons (pv 1) (pa_cons (pe_op op_sub pe_int pe_int) pa_nil))))) pss_nil)
 (pss_one (ps_for PassesOwn.never rfl (pi_range1 (by rfl) A.b_range (pa_cons (pe_callB (id := "len") (k_len (K := K) rfl) (by rfl) A.b_len (by decide +kernel) (pa_cons (pe_ix (k_ixT (K := K) rfl) (pv 0) (pv 1) (fun _ _ => rfl)) pa_nil)) pa_nil)) (pg_name (i := 2) sc_law_invalid.nd rfl (Or.inl rfl))
 (pss_cons (ps_set (i := 3) sc_law_invalid.nd rfl (Or.inl rfl) (pe_ix (k_ixT (K := K) rfl) (pe_ix (k_ixT (K := K) rfl) (pv 0) (pv 1) (fun _ _ => rfl)) (pv 2) (fun _ _ => rfl)))
 (pss_cons (ps_if (pt_val (pe_callB (id := "isinstance") (k_isi (K := K) rfl) (by rfl) A.b_isinstance (by decide +kernel) (pa_cons (pv 3) (pa_cons (pe_bltn (v := .ty "str") (u := .type "str") (by rfl) A.b_str (by decide +kernel) rfl) pa_nil)))) (pss_one (ps_set (i := 4) sc_law_invalid.nd rfl (Or.inl rfl) (pe_cmpR op_gt (pe_callB (id := "len") (k_len (K := K) rfl) (by rfl) A.b_len (by decide +kernel) (pa_cons (pv 3) pa_nil)) pe_int (nomark _)))) (pss_one (ps_set (i := 4) sc_law_invalid.nd rfl (Or.inl rfl) (pe_not (pe_chain op_lt op_lt (pv 1) (pv 3) (pe_callB (id := "len") (k_len (K := K) rfl) (by rfl) A.b_len (by decide +kernel) (pa_cons (pv 0) pa_nil)))))))
 (pss_one (ps_if (pt_val (pv 4)) (pss_one (ps_ret (pe_tup (pa_cons (pv 1) (pa_cons (pv 2) pa_nil))))) pss_nil))))))))
 (pss_one (ps_ret pe_non))), ?_⟩
    have st : Stt [] H0 [] [] H0 := Stt.init H0
    have st := (st.know (φ := fun H => TupAt K H na xs) hna Pers.tup).know (φ := fun H => DtAll K H xs (net.map seatsD)) hxs Pers.all
    walk_at "begin"
    refine i_lenT (xs := xs) (st.pers 0 rfl : TupAt K _ na xs).sq ?_
    rw [hxl]
    walk_at "go"
    refine ⟨_, rfl, by omega, by omega, ForIt.go walk_range (fun j σ H => ∃ s1 s2 s3 s4, σ = [some (.ref na), s1, s2, s3, s4] ∧ (∀ q, q < j → badF net q = none) ∧ Stt [] H0 [] [fun H => TupAt K H na xs, fun H => DtAll K H xs (net.map seatsD)] H) ⟨_, _, _, _, rfl, fun q h => absurd h (Nat.not_lt_zero q), st⟩ (fun _ _ _ _ _ => trivial) ?_ ?_⟩
    · clear st
      rintro j v σ H H' hj ⟨s1, s2, s3, s4, rfl, hpre, st⟩ ⟨rfl, rfl⟩
      have hj : j < net.length := by omega
      have hxj : xs[j]? = some (xs[j]'(by omega)) := List.getElem?_eq_getElem (by omega)
      generalize xs[j]'(by omega) = xj at hxj
      obtain ⟨seats, sa, hse, rfl, hsa⟩ := net_at (st.pers 1 rfl : DtAll K _ xs (net.map seatsD)) hxj
      obtain ⟨z8, hws⟩ := hw seats (List.mem_of_getElem? hse)
      have st := st.know (φ := fun H => TupAt K H sa (seats.map kV)) hsa Pers.tup
      have hgd : net.getD j [] = seats := by rw [List.getD_eq_getElem?_getD, hse]; rfl
      have ret : ∀ {se : Int} {H1 : Hp}, badF net j = some ((j : Int), se) → Stt [] H0 [] [fun H => TupAt K H na xs, fun H => DtAll K H xs (net.map seatsD), fun H => TupAt K H sa (seats.map kV)] H1 → ∀ p, H1 p = none → Q (.ref p) (upd H1 p (.tup [.int (0 + (j : Int)), .int se])) := by
        intro se H1 hb st p np
        have st := st.newT K np (xs := [.int (0 + (j : Int)), .int se])
        have e : badNet net = some ((j : Int), se) := by rw [eB]; exact findSome_at hj hpre hb
        rw [e, ← Int.zero_add (j : Int)] at k
        exact k _ _ st.same (.tup (st.pers 3 rfl) (.cons (.int _) (.cons (.int _) .nil)))
      walk_at "gi"
      refine i_joinI (fun σ' H' => σ' = [some (.ref na), some (.int (0 + (j : Int))), s2, s3, s4] ∧ j ≠ 40 ∧ 1 ≤ seats.length ∧ seats.length ≤ 8 ∧ Stt [] H0 [] [fun H => TupAt K H na xs, fun H => DtAll K H xs (net.map seatsD), fun H => TupAt K H sa (seats.map kV)] H') (fun N J => ?_) ?_
      · walk_at "go"
        have ixs : atI xs (0 + (j : Int)) = some (.ref sa) := by rw [Int.zero_add]; exact atI_nat hxj
        by_cases h40 : j = 40
        · rw [decide_eq_true (show 0 + (j : Int) = 40 by omega)]
          refine iteT ?_
          refine iteT ?_
          walk_at "go"
          refine ⟨sz_of (by simp), ?_⟩
          exact ret (se := -1) (by unfold badF; rw [if_pos h40]; rfl) st
        · rw [decide_eq_false (show ¬ 0 + (j : Int) = 40 by omega)]
          refine iteF ?_
          walk_at "go"
          refine i_ixT (xs := xs) (v := .ref sa) (st.pers 0 rfl : TupAt K _ na xs).sq ixs ?_
          walk_at "go"
          refine i_lenT (xs := seats.map kV) (st.pers 2 rfl : TupAt K _ sa _).sq ?_
          rw [List.length_map]
          have hbad : ¬ (1 ≤ seats.length ∧ seats.length ≤ 8) → badF net j = some ((j : Int), -1) := fun hn => by
            unfold badF
            rw [if_neg h40, hgd]
            unfold firstBad
            rw [if_neg hn]
            rfl
          walk_at "go"
          by_cases h1 : 1 ≤ seats.length
          · rw [decide_eq_true (show (1 : Int) ≤ (seats.length : Int) by omega)]
            refine iteT ?_
            walk_at "go"
            by_cases h8 : seats.length ≤ 8
            · rw [decide_eq_true (show (seats.length : Int) ≤ 8 by omega)]
              refine iteF ?_
              refine i_next ?_
              exact J _ _ ⟨rfl, h40, h1, h8, st⟩
            · rw [decide_eq_false (show ¬ (seats.length : Int) ≤ 8 by omega)]
              refine iteT ?_
              walk_at "go"
              refine ⟨sz_of (by simp), ?_⟩
              exact ret (se := -1) (hbad fun h => h8 h.2) st
          · rw [decide_eq_false (show ¬ (1 : Int) ≤ (seats.length : Int) by omega)]
            refine iteF ?_
            walk_at "go"
            refine iteT ?_
            walk_at "go"
            refine ⟨sz_of (by simp), ?_⟩
            exact ret (se := -1) (hbad fun h => h1 h.1) st
      clear st
      rintro σ H ⟨rfl, h40, h1, h8, st⟩
      have ixs : atI xs (0 + (j : Int)) = some (.ref sa) := by rw [Int.zero_add]; exact atI_nat hxj
      have hbf : badF net j = (seats.findIdx? (fun k => !plcB net.length j k)).map fun (q : Nat) => ((j : Int), (q : Int)) := by
        unfold badF
        rw [if_neg h40, hgd]
        unfold firstBad
        rw [if_pos ⟨h1, h8⟩, Option.map_map]
        rfl
      walk_at "go"
      refine i_ixT (xs := xs) (v := .ref sa) (st.pers 0 rfl : TupAt K _ na xs).sq ixs ?_
      walk_at "go"
      refine i_lenT (xs := seats.map kV) (st.pers 2 rfl : TupAt K _ sa _).sq ?_
      rw [List.length_map]
      walk_at "go"
      refine ⟨_, rfl, by omega, by omega, ForIt.go walk_range (fun q σ H => ∃ s2 s3 s4, σ = [some (.ref na), some (.int (0 + (j : Int))), s2, s3, s4] ∧ (∀ (p : Nat) (y : Key), p < q → seats[p]? = some y → (!plcB net.length j y) = false) ∧ Stt [] H0 [] [fun H => TupAt K H na xs, fun H => DtAll K H xs (net.map seatsD), fun H => TupAt K H sa (seats.map kV)] H) ⟨_, _, _, rfl, fun p y h => absurd h (Nat.not_lt_zero p), st⟩ (fun _ _ _ _ _ => trivial) ?_ ?_⟩
      · clear st
        rintro q v σ H H' hq ⟨s2, s3, s4, rfl, hpre2, st⟩ ⟨rfl, rfl⟩
        have hq : q < seats.length := by omega
        have hkq : seats[q]? = some seats[q] := List.getElem?_eq_getElem hq
        generalize seats[q] = ky at hkq
        have hwk := hws ky (List.mem_of_getElem? hkq)
        walk_at "go"
        refine i_ixT (xs := xs) (v := .ref sa) (st.pers 0 rfl : TupAt K _ na xs).sq ixs ?_
        walk_at "go"
        refine i_ixT (xs := seats.map kV) (v := kV ky) (st.pers 2 rfl : TupAt K _ sa _).sq (by rw [Int.zero_add]; exact atI_nat (by rw [List.getElem?_map, hkq]; rfl)) ?_
        walk_at "gi"
        refine i_joinI (fun σ' H' => σ' = [some (.ref na), some (.int (0 + (j : Int))), some (.int (0 + (q : Int))), some (kV ky), some (.bl (wrongB net.length j ky))] ∧ Stt [] H0 [] [fun H => TupAt K H na xs, fun H => DtAll K H xs (net.map seatsD), fun H => TupAt K H sa (seats.map kV)] H') (fun N J => ?_) ?_
        · walk_at "go"
          cases ky with
          | inl p =>
            refine i_isI (b := "str") (k := false) (by decide +kernel) ?_
            walk_at "go"
            refine iteF ?_
            walk_at "go"
            by_cases hp1 : (j : Int) < p
            · rw [decide_eq_true (show 0 + (j : Int) < p by omega)]
              refine iteT ?_
              walk_at "go"
              refine i_lenT (xs := xs) (st.pers 0 rfl : TupAt K _ na xs).sq ?_
              rw [hxl]
              walk_at "go"
              have e : wrongB net.length j (.inl p) = !decide (p < (net.length : Int)) := by
                show (!(decide ((j : Int) < p) && decide (p < (net.length : Int)))) = _
                rw [decide_eq_true hp1, Bool.true_and]
              rw [e] at J
              exact J _ _ ⟨rfl, st⟩
            · rw [decide_eq_false (show ¬ 0 + (j : Int) < p by omega)]
              refine iteF ?_
              refine ⟨_, rfl, ?_⟩
              walk_at "go"
              have e : wrongB net.length j (.inl p) = !false := by
                show (!(decide ((j : Int) < p) && decide (p < (net.length : Int)))) = _
                rw [decide_eq_false hp1, Bool.false_and]
              rw [e] at J
              exact J _ _ ⟨rfl, st⟩
          | inr z =>
            refine i_isS (b := "str") (k := true) (by decide +kernel) ?_
            walk_at "go"
            refine iteT ?_
            walk_at "go"
            refine i_lenS (sz_of (by have := hwk.2.2; omega)) ?_
            walk_at "go"
            refine J _ _ ⟨?_, st⟩
            have e : decide ((8 : Int) < (z.length : Int)) = decide (8 < z.length) := by rw [Bool.eq_iff_iff]; simp; omega
            rw [e]
            rfl
        clear st
        rintro σ H ⟨rfl, st⟩
        walk_at "go"
        rw [wrong_plc hwk]
        by_cases hp : plcB net.length j ky = true
        · rw [hp]
          refine iteF ?_
          walk_at "go"
          refine ⟨_, _, _, rfl, fun p y hp2 hy => ?_, st⟩
          rcases Nat.lt_succ_iff_lt_or_eq.mp hp2 with h | h
          · exact hpre2 p y h hy
          · rw [h] at hy
            rw [← Option.some.inj (hkq.symm.trans hy), hp]
            rfl
        · rw [Bool.not_eq_true] at hp
          rw [hp]
          refine iteT ?_
          walk_at "go"
          refine ⟨sz_of (by simp), ?_⟩
          refine ret (se := 0 + (q : Int)) ?_ st
          rw [hbf, findIdx_pre hpre2 hkq (by rw [hp]; rfl), Int.zero_add]
          rfl
      · clear st
        rintro σ H ⟨s2, s3, s4, rfl, hpre2, st⟩
        walk_at "go"
        refine ⟨_, _, _, _, rfl, fun q hq => ?_, st.only [0, 1] rfl⟩
        rcases Nat.lt_succ_iff_lt_or_eq.mp hq with h | h
        · exact hpre q h
        · rw [h, hbf, findIdx_no fun p y hy => hpre2 p y (by have := (List.getElem?_eq_some_iff.mp hy).1; omega) hy]
          rfl
    · clear st
      rintro σ H ⟨s1, s2, s3, s4, rfl, hpre, st⟩
      walk_at "go"
      have e : badNet net = none := by
        rw [eB]
        exact findSome_none _ fun q hq => hpre q (by omega)
      rw [e] at k
      exact k _ _ st.same .non
end
end Fb

namespace Fb
open PySem PySem.Spec PyProof.Rows L2 PySem.HandSPX SX
/-! ### what the law expects of a network's text -/
def dN (l : List Nat) : PyData := match noneAt l with
  | some i => .tuple [.str "InvalidText", .int (i : Int)]
  | none => match badNet (netN l) with
    | none => netD (netN l)
    | some (a, b) => .tuple [.str "InvalidNetwork", .int a, .int b]
def spLNet (K : PySem.W.Frag) : Sp := fun vs H Q _ => ∃ l : List Nat, vs = [.str (S l)] ∧ TxOk l ∧ ∀ v H', Same H H' → Dt K H' v (dN l) → Q v H'
/-- rows that are lists of their own -/
def rowsL (as : List Addr) (rs : List (List V)) : List (Addr × HO) := (as.zip rs).map fun p => (p.1, HO.lst p.2)
theorem rowsL_snoc {as : List Addr} {rs : List (List V)} {p : Addr} {r : List V} (h : as.length = rs.length) : rowsL (as ++ [p]) (rs ++ [r]) = rowsL as rs ++ [(p, .lst r)] := by
  unfold rowsL
  rw [List.zip_append h, List.map_append]
  rfl
theorem rowsL_get {as : List Addr} {rs : List (List V)} {q : Nat} {r : List V} (h : as.length = rs.length) (e : rs[q]? = some r) : ∃ a, as[q]? = some a ∧ (rowsL as rs)[q]? = some (a, .lst r) := by
  have hq : q < as.length := by rw [h]; exact (List.getElem?_eq_some_iff.mp e).1
  refine ⟨as[q], List.getElem?_eq_getElem hq, ?_⟩
  unfold rowsL
  rw [List.getElem?_map]
  have : (as.zip rs)[q]? = some (as[q], r) := by
    rw [List.getElem?_zip_eq_some]
    exact ⟨List.getElem?_eq_getElem hq, e⟩
  rw [this]
  rfl
theorem filt_range {α : Type} (p : α → Bool) (l : List α) (d : α) : ((List.range l.length).filter fun i => p (l.getD i d)).head? = l.findIdx? p := by
  rw [List.head?_filter]
  cases e : l.findIdx? p with
  | none =>
    rw [List.findIdx?_eq_none_iff] at e
    rw [List.find?_eq_none]
    intro i hi
    have hi := List.mem_range.mp hi
    rw [List.getD_eq_getElem?_getD, List.getElem?_eq_getElem hi]
    rw [Option.getD_some, e _ (List.getElem_mem hi)]
    decide
  | some i =>
    rw [List.findIdx?_eq_some_iff_getElem] at e
    obtain ⟨hi, h1, h2⟩ := e
    rw [List.find?_range_eq_some]
    refine ⟨by rw [List.getD_eq_getElem?_getD, List.getElem?_eq_getElem hi]; exact h1, List.mem_range.mpr hi, fun j hj => ?_⟩
    rw [List.getD_eq_getElem?_getD, List.getElem?_eq_getElem (by omega)]
    have := h2 j hj
    simpa using this
theorem lc_range {g : TG} {tt : TT} {te : TE} {vs : List Nat} {σ : L2.St} {H : Hp} {Q : VK} (p : Nat → Bool) (n : Nat) (hz : n ≤ 90000)
    (hs : ∀ (i : Nat) (H1 : Hp) (N : VK) (M : Hp → Prop), i < n → Same H H1 → (p i = true → N (.int (i : Int)) H1) → (p i = false → M H1) → g (.int (0 + (i : Int))) (wipe σ vs) H1 fun σ2 H2 => wipe σ2 vs = wipe σ vs ∧ tt σ2 H2 fun b H3 => if b = true then te σ2 H3 N else M H3)
    (hd : ∀ D H', H D = none → Same H H' → H' D = some (.lst (iV (((List.range n).filter p).map fun (i : Nat) => (i : Int)))) → Q (.ref D) H') : LcIt (Itr 0 (n : Int).toNat) g tt te vs σ H Q := by
  rw [Int.toNat_natCast]
  refine LcIt.go walk_range (fun D i H' => H D = none ∧ Same H H' ∧ H' D = some (.lst (iV (((List.range i).filter p).map fun (i : Nat) => (i : Int))))) (fun D hD => ⟨hD, Same.new hD, by rw [upd_same]; rfl⟩) (fun _ _ _ _ _ => trivial) ?_ (fun D H' q => hd D H' q.1 q.2.1 q.2.2)
  rintro D i x H1 H' hi ⟨p1, p2, p3⟩ ⟨rfl, rfl⟩
  refine hs i H' _ _ hi p2 (fun hp => ?_) (fun hp => ?_)
  · refine ⟨_, p3, ?_, p1, fun a o h => by
      rw [upd_ne (ne_of_none h p1)]
      exact p2 a o h, ?_⟩
    · have h1 := List.length_filter_le p (List.range i)
      rw [List.length_range] at h1
      rw [iV_len, List.length_map]
      exact sz_lt (by omega)
    · rw [upd_same, List.range_succ, List.filter_append, List.filter_cons, if_pos hp]
      simp [iV]
  · refine ⟨p1, p2, ?_⟩
    rw [p3, List.range_succ, List.filter_append, List.filter_cons, if_neg (by rw [hp]; decide)]
    simp
theorem i_neNilI {K : PySem.W.Frag} {H : Hp} {a b : Addr} {ns : List Int} {Q : VK} (ha : SqL K H a (iV ns)) (hb : SqL K H b []) (q : Q (.bl (!decide (ns = []))) H) : rNeD K (.ref a) (.ref b) H Q :=
  ⟨_, _, .lst ha (DpAll.ints ns), .lst hb .nil, shaped_ints ns, rfl, by rw [eqv_nil]; exact q⟩
theorem wordK_plc {w : List Nat} (h : w.length ≤ 640) {k : Key} (e : plcW w = some k) : wordK k := by
  unfold plcW at e
  split at e
  · rename_i hl
    obtain rfl := Option.some.inj e
    unfold letB at hl
    rw [Bool.and_eq_true, Bool.not_eq_true', decide_eq_false_iff_not] at hl
    refine ⟨?_, hl.2, by rw [S_len]; omega⟩
    rw [S_len]
    exact List.length_pos_iff.mpr hl.1
  · split at e
    · cases hn : numW w with
      | none => rw [hn] at e; cases e
      | some n => rw [hn] at e; obtain rfl := Option.some.inj e; trivial
    · cases e
section
variable {P : Program} {w : World} {K : PySem.W.Frag} {mg : Str → Option Value} {base : Heap}
theorem ok_law_network_of (A : All K mg) (c_law_place : Cal P w K mg base 2 "_law_place" (spPlcW 2)) (c_law_invalid : Cal P w K mg base 1 "_law_invalid" (spLInv K)) : Cal P w K mg base 3 "_law_network_of" (spLNet K) := by
  refine cal_of A.d_law_network_of sc_law_network_of (fun _ _ _ _ _ _ us hl => match us, hl with | [_], _ => rfl) (fun vs H Q E h => ?_) (fun f cdv A' outer s H0 vs Q E hr h => ?_)
  · obtain ⟨l, rfl, _⟩ := h
    rfl
  · obtain ⟨l, rfl, tx, k⟩ := h
    have hu64 := hr.units
    have hrows := tx.rows
    refine ⟨_, (pss_cons (ps_set (i := 1) sc_law_network_of.nd rfl (Or.inl rfl) (pe_bm PySem.F.plainAttrs_str PySem.F.slot_str_split PySem.F.type_str_split mt_split (pv 0) (pa_cons pe_str pa_nil)))
 (pss_cons (ps_set (i := 2) sc_law_network_of.nd rfl (Or.inr rfl) (pe_lc rfl sc_law_network_of.nd (k_pl (K := K) rfl (pv 1)) (blkOk_by (own := [("_law_line", 5)]) (N := ["_law_text", "_law_lines", "_law_rows", "_law_wrong", "_law_network_here", "_law_line", "_law_row", "_law_word"]) (sc := defScope s_law_network_of) (by decide +kernel)) (fun _ _ _ _ _ => (pg_name (i := 5) sc_law_network_of.nd rfl (Or.inl rfl))) (fun _ _ _ _ _ => pts_nil) (fun _ _ _ _ _ => (pe_lc rfl sc_law_network_of.nd (k_pl (K := K) rfl (k_bm (K := K) rfl PySem.F.plainAttrs_str PySem.F.slot_str_split PySem.F.type_str_split mt_split (pv 5) (pa_cons pe_str pa_nil))) (blkOk_by (own := [("_law_word", 7)]) (N := ["_law_text", "_law_lines", "_law_rows", "_law_wrong", "_law_network_here", "_law_line", "_law_row", "_law_word"]) (by kernel_rfl)) (fun _ _ _ _ _ => (pg_name (i := 7) sc_law_network_of.nd rfl (Or.inl rfl))) (fun _ _ _ _ _ => pts_nil) (fun _ _ _ _ _ => (pc c_law_place hr (by decide) (pa_cons (pv 7) pa_nil)))))))
 (pss_cons (ps_setLc (i := 3) rfl sc_law_network_of.nd rfl rfl (sw_true rfl rfl rfl (by decide +kernel)) (pi_range1 (by rfl) A.b_range (pa_cons (pe_callB (id := "len") (k_len (K := K) rfl) (by rfl) A.b_len (by decide +kernel) (pa_cons (pv 2) pa_nil)) pa_nil)) (blkOk_by (own := [("_law_row", 6)]) (N := ["_law_text", "_law_lines", "_law_rows", "_law_wrong", "_law_network_here", "_law_line", "_law_row", "_law_word"]) (sc := defScope s_law_network_of) (by decide +kernel)) (fun _ _ _ _ _ => (pg_name (i := 6) sc_law_network_of.nd rfl (Or.inl rfl))) (fun _ _ _ _ _ => pts_one (pt_cmpR (k_in (K := K) rfl) pe_non (pe_ix (k_ixL (K := K) rfl) (pv 2) (pv 6) (fun _ _ => rfl)) (by rfl))) (fun _ _ _ _ _ => (pv 6)))
 (pss_cons (ps_if (pt_cmpR (k_neD (K := K) rfl hu64) (pv 3) (pe_lst pa_nil) (nomark _)) (pss_one (ps_ret (pe_tup (pa_cons pe_str (pa_cons (pe_ix (k_ixL (K := K) rfl) (pv 3) pe_int (fun _ _ => rfl)) pa_nil))))) pss_nil)
 (pss_cons (ps_set (i := 4) sc_law_network_of.nd rfl (Or.inl rfl) (pe_callTy (T := "tuple") (k_tuple (K := K) rfl) (by rfl) A.b_tuple (by decide +kernel) (pa_cons (pe_lc rfl sc_law_network_of.nd (k_pl (K := K) rfl (pv 2)) (blkOk_by (own := [("_law_row", 6)]) (N := ["_law_text", "_law_lines", "_law_rows", "_law_wrong", "_law_network_here", "_law_line", "_law_row", "_law_word"]) (sc := defScope s_law_network_of) (by decide +kernel)) (fun _ _ _ _ _ => (pg_name (i := 6) sc_law_network_of.nd rfl (Or.inl rfl))) (fun _ _ _ _ _ => pts_nil) (fun _ _ _ _ _ => (pe_callTy (T := "tuple") (k_tuple (K := K) rfl) (by rfl) A.b_tuple (by decide +kernel) (pa_cons (pv 6) pa_nil)))) pa_nil)))
 (pss_cons (ps_set (i := 3) sc_law_network_of.nd rfl (Or.inl rfl) (pc c_law_invalid hr (by decide) (pa_cons (pv 4) pa_nil)))
 (pss_one (ps_ret (pe_ifExp (pt_cmpR op_isN (pv 3) pe_non (nomark _)) (pv 4) (pe_op op_catT (pe_tup (pa_cons pe_str pa_nil)) (pv 3))))))))))), ?_⟩
    have st : Stt [] H0 [] [] H0 := Stt.init H0
    walk_at "begin"
    refine i_tyX ?_
    walk_at "go"
    refine ⟨S l, "\n", rfl, rfl, by decide +kernel, sz_of (by rw [S_len]; have := tx.len; omega), fun ll nll => ?_⟩
    rw [z_nl, split1 (by decide)]
    have st := st.new (o := .lst (((spl1 10 l).map S).map V.str)) nll trivial
    have hnl : (rowsN l).length = (spl1 10 l).length := by simp [rowsN]
    walk_at "go"
    refine ⟨ll, rfl, ⟨_, st.sqL 0 rfl⟩, LcIt.go (walk_list (xs := ((spl1 10 l).map S).map V.str)) (fun D j H => ∃ as : List Addr, as.length = j ∧ Stt [] H0 ([(ll, .lst (((spl1 10 l).map S).map V.str)), (D, .lst (as.map V.ref))] ++ rowsL as (((rowsN l).take j).map fun r => r.map oK)) [] H) (fun D hD => ⟨[], rfl, st.new (o := .lst []) hD trivial⟩) (fun D j H _ p => ?_) ?_ ?_⟩
    · obtain ⟨_, _, st⟩ := p
      exact st.sqL 0 rfl
    · clear st
      rintro D j v H H' hj ⟨as, has, st⟩ ⟨rfl, hx⟩
      have hj : j < (spl1 10 l).length := by simpa using hj
      have er : (spl1 10 l)[j]? = some (spl1 10 l)[j] := List.getElem?_eq_getElem hj
      generalize (spl1 10 l)[j] = r at er
      have hmr := List.mem_of_getElem? er
      obtain ⟨r1, r2, r3⟩ := tx.row r hmr
      have hx : (((spl1 10 l).map S).map V.str)[j]? = some v := hx
      obtain rfl : V.str (S r) = v := by
        rw [List.getElem?_map, List.getElem?_map, er] at hx
        exact Option.some.inj hx
      have ern : (rowsN l)[j]? = some (rowN r) := by
        unfold rowsN
        rw [List.getElem?_map, er]
        rfl
      walk_at "go"
      refine ⟨rfl, ?_⟩
      walk_at "go"
      refine iteT ?_
      walk_at "go"
      refine i_tyX ?_
      walk_at "go"
      refine ⟨S r, " ", rfl, rfl, by decide +kernel, sz_of (by rw [S_len]; omega), fun wl nwl => ?_⟩
      rw [z_sp, split1 (by decide)]
      have st := st.ext (Same.new (o := .lst (((spl1 32 r).map S).map V.str)) nwl)
      walk_at "go"
      refine ⟨wl, rfl, ⟨_, SqL.of upd_same⟩, LcIt.map (walk_list (xs := ((spl1 32 r).map S).map V.str)) ((rowN r).map oK) (by simp [rowN]) (sz_lt (by simp; omega)) (fun H1 e1 => SqL.of (e1 _ _ upd_same)) ?_ ?_⟩
      · rintro q v y H1 H2 N hq hy1 e1 ⟨rfl, hx1⟩ hN
        have hq' : q < (spl1 32 r).length := by simpa using hq
        have ew : (spl1 32 r)[q]? = some (spl1 32 r)[q] := List.getElem?_eq_getElem hq'
        generalize (spl1 32 r)[q] = w at ew
        obtain ⟨w1, w2⟩ := r3 w (List.mem_of_getElem? ew)
        have hx1 : (((spl1 32 r).map S).map V.str)[q]? = some v := hx1
        obtain rfl : V.str (S w) = v := by
          rw [List.getElem?_map, List.getElem?_map, ew] at hx1
          exact Option.some.inj hx1
        obtain rfl : oK (plcW w) = y := by
          unfold rowN at hy1
          rw [List.getElem?_map, List.getElem?_map, ew] at hy1
          exact Option.some.inj hy1
        walk_at "go"
        refine ⟨rfl, ?_⟩
        walk_at "go"
        exact ⟨w, rfl, w1, w2, fun H4 e4 => hN H4 e4⟩
      · intro D2 H2 nD2 e2 hD2
        have st := st.fresh nD2 e2 hD2 trivial
        have hlen : as.length = (((rowsN l).take j).map fun r => r.map oK).length := by rw [List.length_map, List.length_take]; omega
        refine ⟨as.map V.ref, st.at 1 rfl, sz_lt (by rw [List.length_map]; omega), as ++ [D2], by rw [List.length_append, has]; rfl, ?_⟩
        have st := st.set 1 (o' := HO.lst (as.map V.ref ++ [V.ref D2])) rfl trivial
        have e1 : ((rowsN l).take (j + 1)).map (fun r => r.map oK) = (((rowsN l).take j).map fun r => r.map oK) ++ [(rowN r).map oK] := by
          rw [List.take_succ, ern, List.map_append]
          rfl
        rw [e1, rowsL_snoc hlen, List.map_append]
        exact st
    · clear st
      rintro D H ⟨as, has, st⟩
      have has : as.length = (rowsN l).length := by rw [has, List.length_map, List.length_map, hnl]
      rw [show (rowsN l).take (((spl1 10 l).map S).map V.str).length = rowsN l from List.take_of_length_le (by simp [hnl])] at st
      have row : ∀ {q : Nat} {r : List (Option Key)}, (rowsN l)[q]? = some r → ∃ a, as[q]? = some a ∧ (rowsL as ((rowsN l).map fun r => r.map oK))[q]? = some (a, .lst (r.map oK)) := fun {q r} e => rowsL_get (by rw [List.length_map]; exact has) (by rw [List.getElem?_map, e]; rfl)
      walk_at "go"
      refine i_lenL (xs := as.map V.ref) (st.sqL 1 rfl) ?_
      rw [List.length_map, has]
      walk_at "go"
      have hal : ∀ {q : Nat} {r : List (Option Key)}, (rowsN l)[q]? = some r → ∀ {H : Hp} {L : List (Addr × HO)}, Stt [] H0 ([(ll, .lst (((spl1 10 l).map S).map V.str)), (D, .lst (as.map V.ref))] ++ rowsL as ((rowsN l).map fun r => r.map oK) ++ L) [] H → ∃ a, as[q]? = some a ∧ H a = some (.lst (r.map oK)) := fun {q r} e {H L} st => by
        obtain ⟨a, h1, h2⟩ := row e
        exact ⟨a, h1, st.own (a, .lst _) (List.mem_append_left _ (List.mem_append_right _ (List.mem_of_getElem? h2)))⟩
      have st : Stt [] H0 ([(ll, .lst (((spl1 10 l).map S).map V.str)), (D, .lst (as.map V.ref))] ++ rowsL as ((rowsN l).map fun r => r.map oK) ++ []) [] H := by rw [List.append_nil]; exact st
      try dsimp only [List.set_cons_zero, List.set_cons_succ]
      refine ⟨_, rfl, by omega, by omega, lc_range (fun i => noneB ((rowsN l).getD i [])) (rowsN l).length (by omega) (fun i H1 N M hi e1 hT hF => ?_) fun D3 H3 nD3 e3 hD3 => ?_⟩
      · have er : (rowsN l)[i]? = some ((rowsN l).getD i []) := getDs hi
        generalize hg : (rowsN l).getD i [] = r at er hT hF
        obtain ⟨a, ha, hra⟩ := hal er (st.ext e1)
        walk_at "go"
        refine ⟨rfl, ?_⟩
        walk_at "go"
        refine i_ixL (xs := as.map V.ref) (v := .ref a) ((st.ext e1).sqL 1 rfl) (by rw [Int.zero_add]; exact atI_nat (by rw [List.getElem?_map, ha]; rfl)) ?_
        refine ⟨a, r.map oK, rfl, .inl (SqL.of hra), rfl, flat_oK _, ?_⟩
        rw [if_neg (by decide), inV_none]
        refine ⟨_, rfl, ?_⟩
        cases hb : noneB r with
        | true =>
          refine iteT ?_
          walk_at "go"
          rw [Int.zero_add]
          exact hT hb
        | false =>
          refine iteF ?_
          exact hF hb
      · have st := st.fresh nD3 e3 hD3 trivial
        have hfr := filt_range noneB (rowsN l) []
        generalize (List.range (rowsN l).length).filter (fun i => noneB ((rowsN l).getD i [])) = F at st hfr
        have hfr : F.head? = noneAt l := hfr
        have h3 : SqL K H3 D3 (iV (F.map fun (i : Nat) => (i : Int))) := SqL.of (st.own (D3, _) (by simp))
        walk_at "go"
        refine st_newL st (by simp) fun zl nzl st => ?_
        have h3' : SqL K (upd H3 zl (.lst [])) D3 (iV (F.map fun (i : Nat) => (i : Int))) := SqL.of (st.own (D3, _) (by simp))
        refine i_neNilI (ns := F.map fun (i : Nat) => (i : Int)) h3' (SqL.of upd_same) ⟨_, rfl, ?_⟩
        cases F with
        | cons i F =>
          refine iteT ?_
          walk_at "go"
          refine i_ixL h3' (v := .int (i : Int)) (by simp [atI, ixN, iV]) ?_
          walk_at "go"
          refine st_newT K st (by simp) fun tp ntp st => ?_
          have e : dN l = .tuple [.str "InvalidText", .int (i : Int)] := by
            unfold dN
            rw [← hfr]
            rfl
          rw [e] at k
          exact k _ _ st.same (.tup (st.pers 0 rfl) (.cons (.str _) (.cons (.int _) .nil)))
        | nil =>
          have en : noneAt l = none := hfr.symm
          have hno : ∀ {q : Nat} {r : List (Option Key)}, (rowsN l)[q]? = some r → noneB r = false := fun e => by
            have h := List.findIdx?_eq_none_iff.mp en _ (List.mem_of_getElem? e)
            exact h
          refine iteF ?_
          walk_at "go"
          have st := (st.sub (List.sublist_append_left _ _)).sub (List.sublist_append_left _ _)
          have hnn : (netN l).length = (rowsN l).length := by simp [netN]
          have hD : SqL K (upd H3 zl (.lst [])) D (as.map V.ref) := SqL.of (st.own (D, _) (by simp))
          refine ⟨D, rfl, ⟨_, hD⟩, LcIt.go (walk_list (xs := as.map V.ref)) (fun D4 q H => ∃ vs, vs.length = q ∧ Stt [] H0 ([(ll, .lst (((spl1 10 l).map S).map V.str)), (D, .lst (as.map V.ref))] ++ rowsL as ((rowsN l).map fun r => r.map oK) ++ [] ++ [(D4, .lst vs)]) [fun H => DtAll K H vs (((netN l).take q).map seatsD)] H) (fun D4 hD4 => ⟨[], rfl, (st.new (o := .lst []) hD4 trivial).know .nil Pers.all⟩) (fun D4 q H _ p => ?_) ?_ ?_⟩
          · obtain ⟨vs, _, st⟩ := p
            exact SqL.of (st.own (D, _) (by simp))
          · clear st
            rintro D4 q v H1 H2 hq ⟨vs, hvl, st⟩ ⟨rfl, hx⟩
            have hq : q < (rowsN l).length := by rw [List.length_map] at hq; omega
            have er : (rowsN l)[q]? = some ((rowsN l).getD q []) := getDs hq
            generalize (rowsN l).getD q [] = r at er
            obtain ⟨a, ha, hmem⟩ := row er
            have hx : (as.map V.ref)[q]? = some v := hx
            obtain rfl : V.ref a = v := by
              rw [List.getElem?_map, ha] at hx
              exact Option.some.inj hx
            have hra : H2 a = some (.lst (r.map oK)) := st.own (a, .lst _) (List.mem_append_left _ (List.mem_append_left _ (List.mem_append_right _ (List.mem_of_getElem? hmem))))
            walk_at "go"
            refine ⟨rfl, ?_⟩
            walk_at "go"
            refine iteT ?_
            walk_at "go"
            refine st_tupleL st (ys := r.map oK) (SqL.of hra) fun tp H5 ntp st => ?_
            have d1 : DtAll K H5 vs (((netN l).take q).map seatsD) := st.pers 0 rfl
            have d2 : TupAt K H5 tp (r.map oK) := st.pers 1 rfl
            rw [some_row (hno er)] at d2
            have en2 : (netN l)[q]? = some (r.filterMap id) := by
              unfold netN
              rw [List.getElem?_map, er]
              rfl
            have hdall : DtAll K H5 (vs ++ [.ref tp]) (((netN l).take (q + 1)).map seatsD) := by
              rw [List.take_succ, en2, List.map_append]
              exact d1.snoc (.tup d2 (DtAll.of_keys _))
            refine ⟨vs, st.own (D4, _) (by simp), sz_lt (by omega), vs ++ [.ref tp], by rw [List.length_append, hvl]; rfl, ?_⟩
            have st := (st.know (φ := fun H => DtAll K H (vs ++ [.ref tp]) (((netN l).take (q + 1)).map seatsD)) hdall Pers.all).only (P' := [fun H => DtAll K H (vs ++ [.ref tp]) (((netN l).take (q + 1)).map seatsD)]) [2] rfl
            have st := (st.perm List.perm_append_comm).set 0 (o' := .lst (vs ++ [.ref tp])) rfl trivial
            exact st.perm (show List.Perm _ _ from (List.perm_append_comm (l₁ := [(D4, HO.lst (vs ++ [.ref tp]))])))
          · clear st
            rintro D4 H4 ⟨vs, hvl, st⟩
            rw [show (netN l).take (as.map V.ref).length = netN l from List.take_of_length_le (by rw [List.length_map]; omega)] at st
            try dsimp only [List.set_cons_zero, List.set_cons_succ]
            walk_at "go"
            refine st_tupleL st (ys := vs) (SqL.of (st.own (D4, _) (by simp))) fun tv H5 ntv st => ?_
            have hd : Dt K H5 (.ref tv) (netD (netN l)) := .tup (st.pers 1 rfl) (st.pers 0 rfl)
            have st := (st.know (φ := fun H => Dt K H (.ref tv) (netD (netN l))) hd Pers.dt).only (P' := [fun H => Dt K H (.ref tv) (netD (netN l))]) [2] rfl
            walk_at "go"
            refine ⟨.ref tv, netN l, rfl, hd, fun h0 => ?_, by omega, fun seats hs => ?_, fun wv H6 e6 hwv => ?_⟩
            · have := congrArg List.length h0
              rw [hnn, hnl] at this
              exact spl_pos 10 0 l [] (List.length_eq_zero_iff.mp this)
            · obtain ⟨i, hi⟩ := List.getElem?_of_mem hs
              unfold netN rowsN rowN at hi
              rw [List.getElem?_map, List.getElem?_map] at hi
              cases e : (spl1 10 l)[i]? with
              | none => rw [e] at hi; cases hi
              | some r =>
                rw [e] at hi
                obtain rfl := Option.some.inj hi
                have hmr := List.mem_of_getElem? e
                refine ⟨?_, fun k hk => ?_⟩
                · have h1 := List.length_filterMap_le id ((spl1 32 r).map plcW)
                  have h2 := (tx.row r hmr).2.1
                  rw [List.length_map] at h1
                  show (List.filterMap id ((spl1 32 r).map plcW)).length ≤ _
                  omega
                · obtain ⟨o, ho, hk⟩ := List.mem_filterMap.mp hk
                  obtain ⟨w, hw, rfl⟩ := List.mem_map.mp ho
                  exact wordK_plc (tx.word hmr hw).1 hk
            · have st := (st.ext e6).know (φ := fun H => Dt K H wv (oP (badNet (netN l)))) hwv Pers.dt
              walk_at "go"
              have edN : dN l = match badNet (netN l) with
                  | none => netD (netN l)
                  | some (a, b) => .tuple [.str "InvalidNetwork", .int a, .int b] := by
                unfold dN
                rw [en]
              refine ⟨rfl, _, rfl, ?_⟩
              cases hb : badNet (netN l) with
              | none =>
                rw [hb] at hwv edN
                rw [edN] at k
                cases hwv
                rw [show decide (V.non = V.non) = true from rfl]
                refine iteT ?_
                walk_at "go"
                exact k _ _ st.same (st.pers 0 rfl)
              | some ab =>
                obtain ⟨a, b⟩ := ab
                rw [hb] at hwv edN
                rw [edN] at k
                obtain ⟨wa, ws, rfl, hwa, hws⟩ := hwv.tup_inv
                rw [show decide (V.ref wa = V.non) = false from rfl]
                refine iteF ?_
                walk_at "go"
                refine st_newT K st (by simp) fun t1 nt1 st => ?_
                have hws' : ws = [.int a, .int b] := by
                  cases hws with
                  | cons h1 h2 =>
                    cases h1
                    cases h2 with
                    | cons h3 h4 =>
                      cases h3
                      cases h4
                      rfl
                subst hws'
                walk_at "go"
                refine ⟨t1, wa, [.str "InvalidNetwork"], [.int a, .int b], rfl, rfl, (st.pers 2 rfl : TupAt K _ t1 _).sq, ((hwa.keep (TK.same (Same.new nt1))).sq), by simp, by simp [sizeLine_eq], fun h => absurd h (by simp), fun _ p np => ?_⟩
                have st := st.newT K np (xs := [.str "InvalidNetwork", .int a, .int b])
                exact k _ _ st.same (.tup (st.pers 3 rfl) (.cons (.str _) (.cons (.int _) (.cons (.int _) .nil))))
end
end Fb

namespace Fb
open PySem PySem.Spec PyProof.Rows L2 PySem.HandSPX SX
/-! ### how large the words and rows of a text are -/
theorem infix_app {m a b : List Nat} (h : m <:+: a ++ b) : m <:+: a ∨ m <:+: b ∨ ∃ m1 m2, m = m1 ++ m2 ∧ m1 <:+ a ∧ m2 <+: b := by
  obtain ⟨s, t, e⟩ := h
  rw [List.append_assoc] at e
  rcases List.append_eq_append_iff.mp e with ⟨x, h1, h2⟩ | ⟨x, h1, h2⟩
  · rcases List.append_eq_append_iff.mp h2 with ⟨y, h3, h4⟩ | ⟨y, h3, h4⟩
    · exact .inl ⟨s, y, by rw [h1, h3, List.append_assoc]⟩
    · exact .inr (.inr ⟨x, y, h3, ⟨s, h1.symm⟩, ⟨t, h4.symm⟩⟩)
  · exact .inr (.inl ⟨x, t, by rw [h2, List.append_assoc]⟩)
/-- in a stretch without a separator there are at most n of what is counted -/
def Bd (sep cnt : Nat → Bool) (n : Nat) (l : List Nat) : Prop := ∀ m, m <:+: l → (∀ c ∈ m, sep c = false) → m.countP cnt ≤ n
section
variable {sep cnt : Nat → Bool} {n k : Nat} {a b l : List Nat}
theorem Bd.app (ha : Bd sep cnt n a) (hb : Bd sep cnt k b) : Bd sep cnt (n + k) (a ++ b) := fun m hm hs => by
  rcases infix_app hm with h | h | ⟨m1, m2, rfl, h1, h2⟩
  · have := ha m h hs; omega
  · have := hb m h hs; omega
  · rw [List.countP_append]
    have g1 := ha m1 h1.isInfix fun c hc => hs c (List.mem_append_left _ hc)
    have g2 := hb m2 h2.isInfix fun c hc => hs c (List.mem_append_right _ hc)
    omega
theorem Bd.sub (h : Bd sep cnt n l) (e : a <:+: l) : Bd sep cnt n a := fun m hm hs => h m (hm.trans e) hs
theorem Bd.one (c : Nat) : Bd sep cnt 1 [c] := fun m hm _ => Nat.le_trans List.countP_le_length (Nat.le_trans hm.length_le (by simp))
theorem Bd.mono (h : Bd sep cnt n l) (e : n ≤ k) : Bd sep cnt k l := fun m hm hs => Nat.le_trans (h m hm hs) e
theorem Bd.nil : Bd sep cnt n [] := fun m hm _ => by
  rw [List.infix_nil.mp hm]
  exact Nat.zero_le _
/-- on both sides of a separator -/
theorem Bd.cut {c : Nat} (hc : sep c = true) (ha : Bd sep cnt n a) (hb : Bd sep cnt n b) : Bd sep cnt n (a ++ ([c] ++ b)) := fun m hm hs => by
  have no : c ∉ m := fun h => by have := hs c h; rw [hc] at this; cases this
  have pre : ∀ {x : List Nat}, x <+: [c] ++ b → (∀ y ∈ x, y ∈ m) → x = [] := fun {x} h1 h2 => by
    cases x with
    | nil => rfl
    | cons y x =>
      obtain ⟨t, e⟩ := h1
      have e1 : y = c := (List.cons.inj e).1
      exact absurd (h2 y (List.mem_cons_self ..)) (by rw [e1]; exact no)
  rcases infix_app hm with h | h | ⟨m1, m2, rfl, h1, h2⟩
  · exact ha m h hs
  · obtain ⟨s, t, e⟩ := h
    cases s with
    | nil =>
      have e0 : m = [] := pre ⟨t, by simpa using e⟩ fun y hy => hy
      rw [e0]
      exact Nat.zero_le _
    | cons y s =>
      exact hb m ⟨s, t, (List.cons.inj e).2⟩ hs
  · have := pre h2 fun y hy => List.mem_append_right _ hy
    subst this
    rw [List.append_nil]
    exact ha _ h1.isInfix fun c hc => hs c (List.mem_append_left _ hc)
end
/-! what is cut at a sign -/
theorem spl_cons {c x : Nat} {l : List Nat} {acc : List Nat} : TL.spl [c] 0 acc (x :: l) = if x = c then acc :: TL.spl [c] 0 [] l else TL.spl [c] 0 (acc ++ [x]) l := by
  rw [TL.spl]
  have e : TL.pre [c] (x :: l) = decide (x = c) := by
    unfold TL.pre
    show ([x] == [c]) = decide (x = c)
    rw [Bool.eq_iff_iff, beq_iff_eq, decide_eq_true_iff]
    simp
  rw [e]
  by_cases h : x = c
  · rw [if_pos h, if_pos (decide_eq_true h)]
    try rfl
  · rw [if_neg h, if_neg (by simpa using h)]
theorem spl_nil' {c : Nat} {acc : List Nat} : TL.spl [c] 0 acc [] = [acc] := by rw [TL.spl]
/-- the pieces: stretches without the sign -/
theorem spl_mem (c : Nat) : ∀ (l acc : List Nat), c ∉ acc → ∀ r ∈ TL.spl [c] 0 acc l, r <:+: acc ++ l ∧ c ∉ r
  | [], acc, hacc, r, hr => by
    rw [spl_nil', List.mem_singleton] at hr
    subst hr
    exact ⟨by simp, hacc⟩
  | x :: l, acc, hacc, r, hr => by
    rw [spl_cons] at hr
    by_cases h : x = c
    · rw [if_pos h] at hr
      rcases List.mem_cons.mp hr with rfl | hr
      · exact ⟨⟨[], x :: l, by simp⟩, hacc⟩
      · obtain ⟨h1, h2⟩ := spl_mem c l [] (by simp) r hr
        exact ⟨h1.trans ⟨acc ++ [x], [], by simp⟩, h2⟩
    · rw [if_neg h] at hr
      obtain ⟨h1, h2⟩ := spl_mem c l (acc ++ [x]) (by simp [hacc, Ne.symm h]) r hr
      exact ⟨by rw [List.append_assoc] at h1; exact h1, h2⟩
theorem spl_len (c : Nat) : ∀ (l acc : List Nat), (TL.spl [c] 0 acc l).length = l.countP (fun x => decide (x = c)) + 1
  | [], acc => by rw [spl_nil']; rfl
  | x :: l, acc => by
    rw [spl_cons]
    by_cases h : x = c
    · rw [if_pos h, List.length_cons, spl_len c l, List.countP_cons, if_pos (by simp [h])]
    · rw [if_neg h, spl_len c l, List.countP_cons, if_neg (by simp [h])]
      try omega
/-- l is put together of its pieces -/
theorem spl_join (c : Nat) : ∀ (l acc : List Nat), TL.joinL [c] (TL.spl [c] 0 acc l) = acc ++ l
  | [], acc => by rw [spl_nil']; simp [TL.joinL]
  | x :: l, acc => by
    rw [spl_cons]
    by_cases h : x = c
    · rw [if_pos h]
      have ih := spl_join c l []
      cases e : TL.spl [c] 0 [] l with
      | nil => exact absurd e (spl_pos c 0 l [])
      | cons y r =>
        rw [e] at ih
        show acc ++ ([c] ++ TL.joinL [c] (y :: r)) = acc ++ x :: l
        rw [ih, h]
        rfl
    · rw [if_neg h, spl_join c l]
      simp
theorem joinL_cons2 (s x y : List Nat) (r : List (List Nat)) : TL.joinL s (x :: y :: r) = x ++ (s ++ TL.joinL s (y :: r)) := rfl
/-- pieces without the sign, put together and cut again -/
theorem join_spl (c : Nat) : ∀ (ls : List (List Nat)), ls ≠ [] → (∀ r ∈ ls, c ∉ r) → spl1 c (TL.joinL [c] ls) = ls := by
  have key : ∀ (r acc l : List Nat), c ∉ r → TL.spl [c] 0 acc (r ++ c :: l) = (acc ++ r) :: TL.spl [c] 0 [] l := by
    intro r
    induction r with
    | nil => intro acc l _; rw [List.nil_append, spl_cons, if_pos rfl, List.append_nil]
    | cons x r ih =>
      intro acc l h
      have hx : ¬ x = c := fun e => h (by rw [e]; exact List.mem_cons_self ..)
      rw [List.cons_append, spl_cons, if_neg hx, ih _ _ (fun hm => h (List.mem_cons_of_mem _ hm))]
      simp
  have last : ∀ (r acc : List Nat), c ∉ r → TL.spl [c] 0 acc r = [acc ++ r] := by
    intro r
    induction r with
    | nil => intro acc _; rw [spl_nil', List.append_nil]
    | cons x r ih =>
      intro acc h
      have hx : ¬ x = c := fun e => h (by rw [e]; exact List.mem_cons_self ..)
      rw [spl_cons, if_neg hx, ih _ (fun hm => h (List.mem_cons_of_mem _ hm))]
      simp
  intro ls
  induction ls with
  | nil => intro h; exact absurd rfl h
  | cons r ls ih =>
    intro _ h
    cases ls with
    | nil => exact last r [] (h r (List.mem_cons_self ..))
    | cons y ls =>
      show TL.spl [c] 0 [] (r ++ ([c] ++ TL.joinL [c] (y :: ls))) = _
      rw [show r ++ ([c] ++ TL.joinL [c] (y :: ls)) = r ++ c :: TL.joinL [c] (y :: ls) from rfl, key r [] _ (h r (List.mem_cons_self ..)), List.nil_append]
      have ih := ih (by simp) fun r hr => h r (List.mem_cons_of_mem _ hr)
      rw [show TL.spl [c] 0 [] (TL.joinL [c] (y :: ls)) = y :: ls from ih]
theorem joinL_len (c : Nat) : ∀ (ls : List (List Nat)) (n : Nat), (∀ r ∈ ls, r.length ≤ n) → (TL.joinL [c] ls).length ≤ ls.length * (n + 1)
  | [], n, _ => Nat.zero_le _
  | [x], n, h => by
    have := h x (by simp)
    show x.length ≤ _
    simp only [List.length_cons, List.length_nil]
    omega
  | x :: y :: r, n, h => by
    have h1 := h x (by simp)
    have h2 := joinL_len c (y :: r) n fun z hz => h z (List.mem_cons_of_mem _ hz)
    rw [joinL_cons2, List.length_append, List.length_append, List.length_cons (a := x), Nat.succ_mul]
    simp only [List.length_cons, List.length_nil] at h2 ⊢
    omega
abbrev wsC (c : Nat) : Bool := decide (c = 32) || decide (c = 10)
abbrev nlC (c : Nat) : Bool := decide (c = 10)
abbrev spC (c : Nat) : Bool := decide (c = 32)
/-- a text's words, words in a row, rows -/
structure TB (n1 n2 n3 : Nat) (l : List Nat) : Prop where
  asc : Asc l
  w : Bd wsC (fun _ => true) n1 l
  s : Bd nlC spC n2 l
  r : l.countP nlC ≤ n3
theorem TB.ok {n1 n2 n3 : Nat} {l : List Nat} (t : TB n1 n2 n3 l) (h1 : n1 ≤ 100) (h2 : n2 ≤ 50) (h3 : n3 ≤ 15) : TxOk l := by
  have word : ∀ r ∈ spl1 10 l, ∀ w ∈ spl1 32 r, w.length ≤ n1 ∧ Asc w := fun r hr w hw => by
    obtain ⟨i1, m1⟩ := spl_mem 10 l [] (by simp) r hr
    obtain ⟨i2, m2⟩ := spl_mem 32 r [] (by simp) w hw
    have i3 : w <:+: l := i2.trans i1
    have hs : ∀ c ∈ w, wsC c = false := fun c hc => by
      unfold wsC
      rw [Bool.or_eq_false_iff, decide_eq_false_iff_not, decide_eq_false_iff_not]
      exact ⟨fun e => m2 (e ▸ hc), fun e => m1 (e ▸ i2.subset hc)⟩
    have h := t.w w i3 hs
    have e : w.countP (fun _ => true) = w.length := by simp
    exact ⟨by omega, fun c hc => t.asc c (i3.subset hc)⟩
  have rowl : ∀ r ∈ spl1 10 l, (spl1 32 r).length ≤ n2 + 1 := fun r hr => by
    obtain ⟨i1, m1⟩ := spl_mem 10 l [] (by simp) r hr
    have h := t.s r i1 fun c hc => by
      unfold nlC
      rw [decide_eq_false_iff_not]
      exact fun e => m1 (e ▸ hc)
    rw [spl_len]
    exact Nat.succ_le_succ h
  have len : ∀ r ∈ spl1 10 l, r.length ≤ 51 * 101 := fun r hr => by
    have e := spl_join 32 r []
    rw [List.nil_append] at e
    have h := joinL_len 32 (spl1 32 r) 100 fun w hw => by have := (word r hr w hw).1; omega
    rw [e] at h
    have := Nat.mul_le_mul_right 101 (rowl r hr)
    have := Nat.mul_le_mul_right 101 (show n2 + 1 ≤ 51 by omega)
    omega
  have hr : (spl1 10 l).length ≤ 16 := by
    rw [spl_len]
    have : l.countP (fun x => decide (x = 10)) ≤ n3 := t.r
    omega
  refine ⟨?_, by omega, fun r hr => ⟨by have := len r hr; omega, by have := rowl r hr; omega, fun w hw => ⟨by have := (word r hr w hw).1; omega, (word r hr w hw).2⟩⟩⟩
  have e := spl_join 10 l []
  rw [List.nil_append] at e
  have h := joinL_len 10 (spl1 10 l) 5151 fun r hr => len r hr
  rw [e] at h
  have := Nat.mul_le_mul_right 5152 hr
  omega
end Fb

namespace Fb
open PySem PySem.Spec PyProof.Rows L2 PySem.HandSPX SX
/-! ### a state's text read -/
def nonesI (r : List (Option Int)) : Bool := r.any Option.isNone
def headW (r : List Nat) : List Nat := (spl1 32 r).headD []
def numsL (r : List Nat) : List (Option Int) := (spl1 32 r).tail.map numW
def numsW (kw : Str) (r : List Nat) : Option (List Int) := if S (headW r) = kw ∧ nonesI (numsL r) = false then some ((numsL r).filterMap id) else none
def oNs : Option (List Int) → PyData
  | none => .none
  | some ns => intsD ns
theorem inV_noneI (r : List (Option Int)) : inV .non (r.map oI) = nonesI r := by
  unfold inV nonesI
  rw [List.any_map]
  congr 1
  funext o
  cases o <;> rfl
theorem flat_oI (r : List (Option Int)) : (r.map oI).all flatV = true := by
  rw [List.all_map]
  refine List.all_eq_true.mpr fun x _ => ?_
  cases x <;> rfl
theorem some_rowI {r : List (Option Int)} (h : nonesI r = false) : r.map oI = iV (r.filterMap id) := by
  induction r with
  | nil => rfl
  | cons x r ih =>
    unfold nonesI at h
    rw [List.any_cons, Bool.or_eq_false_iff] at h
    cases x with
    | none => exact nomatch h.1
    | some k =>
      rw [List.map_cons, ih h.2]
      rfl
/-- a row that is not too large -/
def RwOk (r : List Nat) : Prop := r.length ≤ 90000 ∧ (spl1 32 r).length ≤ 160 ∧ ∀ w ∈ spl1 32 r, w.length ≤ 640 ∧ Asc w
theorem row_split (r : List Nat) : spl1 32 r = headW r :: (spl1 32 r).tail := by
  unfold headW
  cases e : spl1 32 r with
  | nil => exact absurd e (spl_pos 32 0 r [])
  | cons x y => rfl
def spNums (K : PySem.W.Frag) : Sp := fun vs H Q _ => ∃ (r : List Nat) (kw : Str), vs = [.str (S r), .str kw] ∧ RwOk r ∧ ∀ v H', Same H H' → Dt K H' v (oNs (numsW kw r)) → Q v H'
section
variable {P : Program} {w : World} {K : PySem.W.Frag} {mg : Str → Option Value} {base : Heap}
theorem ok_parse_numbers (A : All K mg) (c_parse_number : Cal P w K mg base 2 "parse_number" (spNumW 2)) : Cal P w K mg base 3 "parse_numbers" (spNums K) := by
  refine cal_of A.d_parse_numbers sc_parse_numbers (fun _ _ _ _ _ _ us hl => match us, hl with | [_, _], _ => rfl) (fun vs H Q E h => ?_) (fun f cdv A' outer s H0 vs Q E hr h => ?_)
  · obtain ⟨r, kw, rfl, _⟩ := h
    rfl
  · obtain ⟨r, kw, rfl, ⟨r1, r2, r3⟩, k⟩ := h
    refine ⟨_, (pss_cons (ps_asg (pe_bm PySem.F.plainAttrs_str PySem.F.slot_str_split PySem.F.type_str_split mt_split (pv 0) (pa_cons pe_str pa_nil)) (pg_star (K := K) rfl rfl (pg_name (i := 2) sc_parse_numbers.nd rfl (Or.inl rfl)) (pg_name (i := 3) sc_parse_numbers.nd rfl (Or.inl rfl))))
 (pss_cons (ps_setLc (i := 4) rfl sc_parse_numbers.nd rfl rfl (sw_true rfl rfl rfl (by decide +kernel)) (k_pl (K := K) rfl (pv 3)) (blkOk_by (own := [("word", 5)]) (N := ["line", "keyword", "head", "words", "numbers", "word"]) (sc := defScope s_parse_numbers) (by decide +kernel)) (fun _ _ _ _ _ => (pg_name (i := 5) sc_parse_numbers.nd rfl (Or.inl rfl))) (fun _ _ _ _ _ => pts_nil) (fun _ _ _ _ _ => (pc c_parse_number hr (by decide) (pa_cons (pv 5) pa_nil))))
 (pss_one (ps_ret (pe_ifExp (PW.pt (pw_or (pt_cmpR op_ne (pv 2) (pv 1) (nomark _)) (pw_or1 (pt_cmpR (k_in (K := K) rfl) pe_non (pv 4) (by rfl))))) pe_non (pe_callTy (T := "tuple") (k_tuple (K := K) rfl) (by rfl) A.b_tuple (by decide +kernel) (pa_cons (pv 4) pa_nil))))))), ?_⟩
    have st : Stt [] H0 [] [] H0 := Stt.init H0
    walk_at "begin"
    refine i_tyX ?_
    walk_at "go"
    refine ⟨S r, " ", rfl, rfl, by decide +kernel, sz_of (by rw [S_len]; omega), fun wl nwl => ?_⟩
    rw [z_sp, split1 (by decide)]
    have st := st.new (o := .lst (((spl1 32 r).map S).map V.str)) nwl trivial
    have hsp := row_split r
    generalize hhd : headW r = hd at hsp
    generalize htl : (spl1 32 r).tail = tl at hsp
    rw [hsp] at st
    rw [hsp]
    refine i_star (x := .str (S hd)) (xs := (tl.map S).map V.str) (.inl (st.sqL 0 rfl)) fun p np => ?_
    have st := st.new (o := .lst ((tl.map S).map V.str)) np trivial
    have hlen : tl.length ≤ 160 := by have := congrArg List.length hsp; rw [List.length_cons] at this; omega
    have hnl : numsL r = tl.map numW := by unfold numsL; rw [htl]
    walk_at "go"
    refine ⟨p, rfl, ⟨_, st.sqL 1 rfl⟩, LcIt.map (walk_list (xs := (tl.map S).map V.str)) ((numsL r).map oI) (by simp [hnl]) (sz_lt (by simp; omega)) (fun H1 e1 => (st.ext e1).sqL 1 rfl) ?_ ?_⟩
    · rintro q v y H1 H2 N hq hy1 e1 ⟨rfl, hx1⟩ hN
      have hq' : q < tl.length := by simpa using hq
      have ew : tl[q]? = some tl[q] := List.getElem?_eq_getElem hq'
      generalize tl[q] = w at ew
      obtain ⟨w1, w2⟩ := r3 w (by rw [hsp]; exact List.mem_cons_of_mem _ (List.mem_of_getElem? ew))
      have hx1 : ((tl.map S).map V.str)[q]? = some v := hx1
      obtain rfl : V.str (S w) = v := by
        rw [List.getElem?_map, List.getElem?_map, ew] at hx1
        exact Option.some.inj hx1
      obtain rfl : oI (numW w) = y := by
        rw [hnl, List.getElem?_map, List.getElem?_map, ew] at hy1
        exact Option.some.inj hy1
      walk_at "go"
      refine ⟨rfl, ?_⟩
      walk_at "go"
      exact ⟨w, rfl, w1, w2, fun H4 e4 => hN H4 e4⟩
    · intro D H2 nD e2 hD
      have st := st.fresh nD e2 hD trivial
      walk_at "go"
      by_cases hk : S hd = kw
      · rw [decide_eq_true hk]
        refine iteF ?_
        walk_at "go"
        refine ⟨D, (numsL r).map oI, rfl, .inl (st.sqL 2 rfl), rfl, flat_oI _, ?_⟩
        rw [if_neg (by decide), inV_noneI]
        refine ⟨_, rfl, ?_⟩
        cases hb : nonesI (numsL r) with
        | true =>
          refine iteT ?_
          walk_at "go"
          have e : numsW kw r = none := if_neg fun h => by rw [hb] at h; exact nomatch h.2
          rw [e] at k
          exact k _ _ st.same .non
        | false =>
          refine iteF ?_
          walk_at "go"
          refine st_tupleL st (ys := (numsL r).map oI) (st.sqL 2 rfl) fun tp H3 ntp st => ?_
          have e : numsW kw r = some ((numsL r).filterMap id) := if_pos ⟨by rw [hhd]; exact hk, hb⟩
          rw [e] at k
          have d2 : TupAt K H3 tp ((numsL r).map oI) := st.pers 0 rfl
          rw [some_rowI hb] at d2
          exact k _ _ st.same (.tup d2 (DtAll.of_ints _))
      · rw [decide_eq_false hk]
        refine iteT ?_
        refine iteT ?_
        walk_at "go"
        have e : numsW kw r = none := if_neg fun h => hk (by rw [← hhd]; exact h.1)
        rw [e] at k
        exact k _ _ st.same .non
end
/-! ### what a state's text tells -/
def qAt (lines : List (List Nat)) (i : Nat) : Option (List Int) := match lines[i]? with
  | none => none
  | some r => numsW "queue" r
def qRows (n : Nat) (lines : List (List Nat)) : List (Option (List Int)) := (List.range n).map fun i => qAt lines (i + 1)
/-- the row that is wrong, or the next passenger and the queues -/
def stR (n : Nat) (l : List Nat) : Except Nat (Int × List (List Int)) := match numsW "next" ((spl1 10 l).headD []) with
  | some [a] => match (qRows n (spl1 10 l)).findIdx? Option.isNone with
    | some i => .error (i + 1)
    | none => if n + 1 < (spl1 10 l).length then .error (n + 1) else .ok (a, (qRows n (spl1 10 l)).filterMap id)
  | _ => .error 0
def spPSt (K : PySem.W.Frag) (C0 C1 CT : Addr) : Sp := fun vs H Q E => ∃ (nv : V) (net : List (List Key)) (l : List Nat), vs = [nv, .str (S l)] ∧ Dt K H nv (netD net) ∧ (∀ (i : Nat) (seats : List Key), net[i]? = some seats → (∀ k ∈ seats, keyZ k) ∧ seats.length ≤ 100000) ∧ net.length ≤ 6 ∧ TxOk l ∧
  ((NetOk net ∧ (match stR net.length l with
    | .error i => ∀ d H1, Same H H1 → H1 d = none → E (.ref CT) (some d) (upd H1 d (.xd [("row", .int (i : Int))]))
    | .ok (a, qs) => (StOk net a qs → ∀ v H', Same H H' → Dt K H' v (stD a qs) → Q v H') ∧ (¬ StOk net a qs → ∀ H', Same H H' → E (.ref C1) none H'))) ∨
   ∃ st se, badNet net = some (st, se) ∧ ∀ d H1, Same H H1 → H1 d = none → E (.ref C0) (some d) (upd H1 d (.xd [("seat", .int se), ("station", .int st)])))
section
variable {P : Program} {w : World} {K : PySem.W.Frag} {mg : Str → Option Value} {base : Heap}
theorem ok_parse_state (A : All K mg) {C0 C1 CT : Addr} (KT : KxInvalidText K mg CT) (c_validate_network : Cal P w K mg base 4 "validate_network" (spVNetX K C0)) (c_validate_state : Cal P w K mg base 4 "validate_state" (spVStG K C1)) (c_parse_numbers : Cal P w K mg base 3 "parse_numbers" (spNums K)) : Cal P w K mg base 5 "parse_state" (spPSt K C0 C1 CT) := by
  obtain ⟨_, h_NEXT⟩ := A.c_NEXT
  obtain ⟨_, h_QUEUE⟩ := A.c_QUEUE
  refine cal_ofX A.d_parse_state sc_parse_state (fun _ _ _ _ _ _ us hl => match us, hl with | [_, _], _ => rfl) (fun vs H Q E h => ?_) (fun f cdv A' outer s H0 vs Q E hr h => ?_)
  · obtain ⟨nv, net, l, rfl, _⟩ := h
    rfl
  · obtain ⟨nv, net, l, rfl, hn, hw, hl6, tx, k⟩ := h
    have hrows := tx.rows
    refine ⟨_, (pss_cons (ps_expr (pcX c_validate_network hr (by decide) (takes_of rfl rfl rfl rfl) (pa_cons (pv 0) pa_nil)))
 (pss_cons (ps_set (i := 2) sc_parse_state.nd rfl (Or.inl rfl) (pe_bm PySem.F.plainAttrs_str PySem.F.slot_str_split PySem.F.type_str_split mt_split (pv 1) (pa_cons pe_str pa_nil)))
 (pss_cons (ps_set (i := 3) sc_parse_state.nd rfl (Or.inl rfl) (pc c_parse_numbers hr (by decide) (pa_cons (pe_ix (k_ixL (K := K) rfl) (pv 2) pe_int (fun _ _ => rfl)) (pa_cons (pe_glob (v := .str "next") rfl h_NEXT ⟨_, rfl⟩) pa_nil))))
 (pss_cons (ps_if (PW.pt (pw_or (pt_cmpR op_isN (pv 3) pe_non (nomark _)) (pw_or1 (pt_cmpR op_ne (pe_callB (id := "len") (k_len (K := K) rfl) (by rfl) A.b_len (by decide +kernel) (pa_cons (pv 3) pa_nil)) pe_int (nomark _))))) (pss_one (ps_kx_InvalidText KT (hr.mono (by decide)) rfl (takes_of rfl rfl rfl rfl) rfl (pk_cons pe_int pk_nil))) pss_nil)
 (pss_cons (ps_set (i := 4) sc_parse_state.nd rfl (Or.inl rfl) (pe_lst pa_nil))
 (pss_cons (ps_for (passes_of rfl) rfl (pi_range2 (by rfl) A.b_range (pa_cons pe_int (pa_cons (pe_op op_add (pe_callB (id := "len") (k_len (K := K) rfl) (by rfl) A.b_len (by decide +kernel) (pa_cons (pv 0) pa_nil)) pe_int) pa_nil))) (pg_name (i := 5) sc_parse_state.nd rfl (Or.inl rfl))
 (pss_cons (ps_set (i := 6) sc_parse_state.nd rfl (Or.inl rfl) (pe_ifExp (pt_cmpR op_lt (pv 5) (pe_callB (id := "len") (k_len (K := K) rfl) (by rfl) A.b_len (by decide +kernel) (pa_cons (pv 2) pa_nil)) (nomark _)) (pc c_parse_numbers hr (by decide) (pa_cons (pe_ix (k_ixL (K := K) rfl) (pv 2) (pv 5) (fun _ _ => rfl)) (pa_cons (pe_glob (v := .str "queue") rfl h_QUEUE ⟨_, rfl⟩) pa_nil))) pe_non))
 (pss_cons (ps_if (pt_cmpR op_isN (pv 6) pe_non (nomark _)) (pss_one (ps_kx_InvalidText KT (hr.mono (by decide)) rfl (takes_of rfl rfl rfl rfl) rfl (pk_cons (pv 5) pk_nil))) pss_nil)
 (pss_one (ps_expr (pe_bm PySem.F.plainAttrs_list PySem.F.slot_list_append PySem.F.type_list_append mt_append (pv 4) (pa_cons (pv 6) pa_nil)))))))
 (pss_cons (ps_if (pt_cmpR op_gt (pe_callB (id := "len") (k_len (K := K) rfl) (by rfl) A.b_len (by decide +kernel) (pa_cons (pv 2) pa_nil)) (pe_op op_add (pe_callB (id := "len") (k_len (K := K) rfl) (by rfl) A.b_len (by decide +kernel) (pa_cons (pv 0) pa_nil)) pe_int) (nomark _)) (pss_one (ps_kx_InvalidText KT (hr.mono (by decide)) rfl (takes_of rfl rfl rfl rfl) rfl (pk_cons (pe_op op_add (pe_callB (id := "len") (k_len (K := K) rfl) (by rfl) A.b_len (by decide +kernel) (pa_cons (pv 0) pa_nil)) pe_int) pk_nil))) pss_nil)
 (pss_cons (ps_set (i := 7) sc_parse_state.nd rfl (Or.inl rfl) (pe_tup (pa_cons (pe_ix (k_ixT (K := K) rfl) (pv 3) pe_int (fun _ _ => rfl)) (pa_cons (pe_callTy (T := "tuple") (k_tuple (K := K) rfl) (by rfl) A.b_tuple (by decide +kernel) (pa_cons (pv 4) pa_nil)) pa_nil))))
 (pss_cons (ps_expr (pcX c_validate_state hr (by decide) (takes_of rfl rfl rfl rfl) (pa_cons (pv 0) (pa_cons (pv 7) pa_nil))))
 (pss_one (ps_ret (pv 7)))))))))))), ?_⟩
    walk_at "begin"
    rcases k with ⟨ok, k⟩ | ⟨st, se, hbd, k⟩
    · refine ⟨nv, net, rfl, hn, hw, by omega, fun _ H1 e1 => ?_, fun st se hb => by rw [bad_ok ok] at hb; cases hb⟩
      have st := (Stt.init H0).ext e1
      have st := st.know (φ := fun H => Dt K H nv (netD net)) (Dt.keep (TK.same e1) _ _ hn) Pers.dt
      obtain ⟨na, xs, rfl, hna, hxs⟩ := (st.pers 0 rfl : Dt K H1 nv (netD net)).tup_inv
      have hxl : xs.length = net.length := by rw [hxs.len, List.length_map]
      have st := st.know (φ := fun H => TupAt K H na xs) hna Pers.tup
      walk_at "go"
      refine i_tyX ?_
      walk_at "go"
      refine ⟨S l, "\n", rfl, rfl, by decide +kernel, sz_of (by rw [S_len]; have := tx.len; omega), fun ll nll => ?_⟩
      rw [z_nl, split1 (by decide)]
      have hrow : ∀ r ∈ spl1 10 l, RwOk r := tx.row
      have hR : stR net.length l = stR net.length l := rfl
      unfold stR at k
      generalize hls : spl1 10 l = ls at k hrow hrows
      obtain ⟨r0, lt, rfl⟩ : ∃ r0 lt, ls = r0 :: lt := List.exists_cons_of_ne_nil (by rw [← hls]; exact spl_pos 10 0 l [])
      have st := st.new (o := .lst (((r0 :: lt).map S).map V.str)) nll trivial
      walk_at "go"
      refine i_ixL (xs := ((r0 :: lt).map S).map V.str) (v := .str (S r0)) (st.sqL 0 rfl) (by simp [atI, ixN]) ?_
      walk_at "go"
      refine ⟨r0, "next", rfl, hrow r0 (List.mem_cons_self ..), fun fv H2 e2 hfv => ?_⟩
      have st := (st.ext e2).know (φ := fun H => Dt K H fv (oNs (numsW "next" r0))) hfv Pers.dt
      rw [show (r0 :: lt).headD [] = r0 from rfl] at k
      walk_at "go"
      have bad : ∀ {i : Nat} {σ : L2.St} {te : TA} {H3 : Hp} {L : List (Addr × HO)} {P : List (Hp → Prop)}, True := trivial
      have hql : (qRows net.length (r0 :: lt)).length = net.length := by simp [qRows]
      refine ⟨rfl, _, rfl, ?_⟩
      cases hf : numsW "next" r0 with
      | none =>
        rw [hf] at hfv k
        dsimp only at k
        cases hfv
        rw [show decide (V.non = V.non) = true from rfl]
        refine iteT ?_
        refine iteT ?_
        unfold tMkOK
        walk_at "go"
        exact kx_sp fun d nd => k d _ st.same nd
      | some ns =>
        rw [hf] at hfv k
        obtain ⟨fa, fs, rfl, hfa, hfs⟩ := hfv.tup_inv
        obtain rfl := hfs.ints
        have st := st.know (φ := fun H => TupAt K H fa (iV ns)) hfa Pers.tup
        rw [show decide (V.ref fa = V.non) = false from rfl]
        refine iteF ?_
        walk_at "go"
        refine i_lenT (xs := iV ns) (st.pers 3 rfl : TupAt K _ fa _).sq ?_
        rw [iV_len]
        walk_at "go"
        have bad0 : ns.length ≠ 1 → ∀ d, H2 d = none → E (.ref CT) (some d) (upd H2 d (.xd [("row", .int 0)])) := fun h1 d nd => by
          cases ns with
          | nil => exact k d _ st.same nd
          | cons a ns =>
            cases ns with
            | nil => exact absurd rfl h1
            | cons b ns => exact k d _ st.same nd
        by_cases h1 : ns.length = 1
        · rw [decide_eq_true (show (ns.length : Int) = 1 by omega)]
          refine iteF ?_
          refine i_next ?_
          obtain ⟨a, rfl⟩ : ∃ a, ns = [a] := List.length_eq_one_iff.mp h1
          dsimp only at k
          clear bad0 h1 hfv hfs
          walk_at "go"
          refine st_newL st (by simp) fun ql nql st => ?_
          walk_at "go"
          refine i_iR2 ?_
          walk_at "go"
          refine i_lenT (xs := xs) (st.pers 1 rfl : TupAt K _ na xs).sq ?_
          rw [hxl]
          walk_at "go"
          refine ⟨_, _, rfl, ⟨by omega, by omega, by omega, by omega⟩, ?_⟩
          rw [show ((net.length : Int) + 1 - 1).toNat = net.length by omega]
          have st := st.only (P' := [fun H => Dt K H (.ref na) (netD net), fun H => TupAt K H na xs, fun H => TupAt K H fa (iV [a])]) [0, 1, 3] rfl
          refine ForIt.go walk_range (fun j σ H => ∃ s5 s6 vs, σ = [some (.ref na), some (.str (S l)), some (.ref ll), some (.ref fa), some (.ref ql), s5, s6, none] ∧ (∀ (q : Nat) (y : Option (List Int)), q < j → (qRows net.length (r0 :: lt))[q]? = some y → y.isNone = false) ∧
            Stt [] H0 [(ll, .lst (((r0 :: lt).map S).map V.str)), (ql, .lst vs)] [fun H => Dt K H (.ref na) (netD net), fun H => TupAt K H na xs, fun H => TupAt K H fa (iV [a]), fun H => DtAll K H vs ((((qRows net.length (r0 :: lt)).take j).filterMap id).map intsD)] H) ⟨_, _, [], rfl, fun q y h => absurd h (Nat.not_lt_zero q), st.know .nil Pers.all⟩ (fun _ _ _ _ _ => trivial) ?_ ?_
          · clear st
            rintro j v σ H H' hj ⟨s5, s6, vs, rfl, hpre, st⟩ ⟨rfl, rfl⟩
            have eq : (qRows net.length (r0 :: lt))[j]? = some (qAt (r0 :: lt) (j + 1)) := by
              unfold qRows
              rw [List.getElem?_map, List.getElem?_range hj]
              rfl
            generalize hqv : qAt (r0 :: lt) (j + 1) = qv at eq
            walk_at "gi"
            refine i_joinE (fun v H => Stt [] H0 [(ll, .lst (((r0 :: lt).map S).map V.str)), (ql, .lst vs)] [fun H => Dt K H (.ref na) (netD net), fun H => TupAt K H na xs, fun H => TupAt K H fa (iV [a]), fun H => DtAll K H vs ((((qRows net.length (r0 :: lt)).take j).filterMap id).map intsD), fun H => Dt K H v (oNs qv)] H) (fun N J => ?_) ?_
            · refine i_ifE ?_
              walk_at "go"
              refine i_lenL (xs := ((r0 :: lt).map S).map V.str) (st.sqL 0 rfl) ?_
              rw [List.length_map, List.length_map]
              walk_at "go"
              by_cases hlt : j + 1 < (r0 :: lt).length
              · rw [decide_eq_true (show 1 + (j : Int) < ((r0 :: lt).length : Int) by omega)]
                refine iteT ?_
                have er : (r0 :: lt)[j + 1]? = some (r0 :: lt)[j + 1] := List.getElem?_eq_getElem hlt
                generalize (r0 :: lt)[j + 1] = r at er
                have hqn : qv = numsW "queue" r := by
                  rw [← hqv]
                  unfold qAt
                  rw [er]
                walk_at "go"
                refine i_ixL (xs := ((r0 :: lt).map S).map V.str) (v := .str (S r)) (st.sqL 0 rfl) (by rw [show 1 + (j : Int) = ((j + 1 : Nat) : Int) by omega]; exact atI_nat (by rw [List.getElem?_map, List.getElem?_map, er]; rfl)) ?_
                walk_at "go"
                refine ⟨r, "queue", rfl, hrow r (List.mem_of_getElem? er), fun v2 H3 e3 hv2 => ?_⟩
                rw [← hqn] at hv2
                exact J _ _ ((st.ext e3).know hv2 Pers.dt)
              · rw [decide_eq_false (show ¬ 1 + (j : Int) < ((r0 :: lt).length : Int) by omega)]
                refine iteF ?_
                walk_at "go"
                have hqn : qv = none := by
                  rw [← hqv]
                  unfold qAt
                  rw [List.getElem?_eq_none (by omega)]
                rw [hqn] at J
                exact J _ _ (st.know .non Pers.dt)
            clear st
            intro v2 H2 st
            have hv2 : Dt K H2 v2 (oNs qv) := st.pers 4 rfl
            walk_at "go"
            refine ⟨rfl, _, rfl, ?_⟩
            cases qv with
            | none =>
              cases hv2
              rw [show decide (V.non = V.non) = true from rfl]
              refine iteT ?_
              unfold tMkOK
              walk_at "go"
              rw [findIdx_pre hpre eq rfl] at k
              dsimp only at k
              refine kx_sp fun d nd => ?_
              have := k d _ st.same nd
              rw [show 1 + (j : Int) = ((j + 1 : Nat) : Int) by omega]
              exact this
            | some q =>
              obtain ⟨qa, qx, rfl, hqa, hqx⟩ := hv2.tup_inv
              rw [show decide (V.ref qa = V.non) = false from rfl]
              refine iteF ?_
              walk_at "go"
              refine i_tyL (xs := vs) (st.sqL 1 rfl) ?_
              walk_at "go"
              have e1 : ((qRows net.length (r0 :: lt)).take (j + 1)).filterMap id = (((qRows net.length (r0 :: lt)).take j).filterMap id) ++ [q] := by
                rw [List.take_succ, eq, List.filterMap_append]
                rfl
              have hvl : vs.length ≤ j := by
                rw [(st.pers 3 rfl : DtAll K _ vs _).len, List.length_map]
                exact Nat.le_trans (List.length_filterMap_le _ _) (by rw [List.length_take]; omega)
              have hdall : DtAll K H2 (vs ++ [.ref qa]) ((((qRows net.length (r0 :: lt)).take (j + 1)).filterMap id).map intsD) := by
                rw [e1, List.map_append]
                exact (st.pers 3 rfl : DtAll K H2 vs _).snoc (st.pers 4 rfl)
              have st := (st.know (φ := fun H => DtAll K H (vs ++ [.ref qa]) ((((qRows net.length (r0 :: lt)).take (j + 1)).filterMap id).map intsD)) hdall Pers.all).only (P' := [fun H => Dt K H (.ref na) (netD net), fun H => TupAt K H na xs, fun H => TupAt K H fa (iV [a]), fun H => DtAll K H (vs ++ [.ref qa]) ((((qRows net.length (r0 :: lt)).take (j + 1)).filterMap id).map intsD)]) [0, 1, 2, 5] rfl
              refine st_append st 1 rfl (by omega) fun H3 st => ?_
              refine ⟨_, _, vs ++ [V.ref qa], rfl, fun p y hp hy => ?_, ?_⟩
              · rcases Nat.lt_succ_iff_lt_or_eq.mp hp with h | h
                · exact hpre p y h hy
                · rw [h] at hy
                  rw [← Option.some.inj (eq.symm.trans hy)]
                  rfl
              · exact st
          · clear st
            rintro σ H ⟨s5, s6, vs, rfl, hpre, st⟩
            rw [show (qRows net.length (r0 :: lt)).take net.length = qRows net.length (r0 :: lt) from List.take_of_length_le (by omega)] at st
            have hno : (qRows net.length (r0 :: lt)).findIdx? Option.isNone = none := findIdx_no fun q y hy => hpre q y (by have := (List.getElem?_eq_some_iff.mp hy).1; omega) hy
            rw [hno] at k
            dsimp only at k
            walk_at "go"
            refine i_lenL (xs := ((r0 :: lt).map S).map V.str) (st.sqL 0 rfl) ?_
            rw [List.length_map, List.length_map]
            walk_at "go"
            refine i_lenT (xs := xs) (st.pers 1 rfl : TupAt K _ na xs).sq ?_
            rw [hxl]
            walk_at "go"
            by_cases hlt : net.length + 1 < (r0 :: lt).length
            · rw [decide_eq_true (show (net.length : Int) + 1 < ((r0 :: lt).length : Int) by omega)]
              rw [if_pos hlt] at k
              refine iteT ?_
              unfold tMkOK
              walk_at "go"
              refine i_lenT (xs := xs) (st.pers 1 rfl : TupAt K _ na xs).sq ?_
              rw [hxl]
              walk_at "go"
              refine kx_sp fun d nd => ?_
              exact k d _ st.same nd
            · rw [decide_eq_false (show ¬ (net.length : Int) + 1 < ((r0 :: lt).length : Int) by omega)]
              rw [if_neg hlt] at k
              generalize hqs : (qRows net.length (r0 :: lt)).filterMap id = qs at k st
              have hqn : qs.length ≤ 6 := by
                rw [← hqs]
                exact Nat.le_trans (List.length_filterMap_le _ _) (by omega)
              have hq160 : ∀ q ∈ qs, q.length ≤ 160 := by
                intro q hq
                rw [← hqs] at hq
                obtain ⟨o, ho, hoq⟩ := List.mem_filterMap.mp hq
                obtain ⟨i, hi, rfl⟩ := List.mem_map.mp ho
                have hoq : qAt (r0 :: lt) (i + 1) = some q := hoq
                unfold qAt at hoq
                cases er : (r0 :: lt)[i + 1]? with
                | none => rw [er] at hoq; cases hoq
                | some r =>
                  rw [er] at hoq
                  dsimp only at hoq
                  unfold numsW at hoq
                  split at hoq
                  · have := Option.some.inj hoq
                    rw [← this]
                    refine Nat.le_trans (List.length_filterMap_le _ _) ?_
                    unfold numsL
                    rw [List.length_map, List.length_tail]
                    have := (hrow r (List.mem_of_getElem? er)).2.1
                    omega
                  · cases hoq
              refine iteF ?_
              walk_at "go"
              refine i_ixT (xs := iV [a]) (v := .int a) (st.pers 2 rfl : TupAt K _ fa _).sq (by simp [atI, ixN, iV]) ?_
              walk_at "go"
              refine st_tupleL st (ys := vs) (st.sqL 1 rfl) fun qt H3 nqt st => ?_
              walk_at "go"
              refine st_newT K st (by simp) fun sv nsv st => ?_
              have hsv : Dt K _ (.ref sv) (stD a qs) := .tup (st.pers 5 rfl) (.cons (.int _) (.cons (.tup (st.pers 4 rfl) (st.pers 3 rfl)) .nil))
              have st := st.know (φ := fun H => Dt K H (.ref sv) (stD a qs)) hsv Pers.dt
              walk_at "go"
              refine ⟨.ref na, .ref sv, net, a, qs, 160, rfl, st.pers 0 rfl, hsv, ok, ⟨by omega, hq160⟩, by have := Nat.mul_le_mul_left 160 hqn; omega, fun so H4 e4 => ?_, fun nso H4 e4 => ?_⟩
              · have st := st.ext e4
                walk_at "go"
                exact k.1 so _ _ st.same (st.pers 6 rfl)
              · exact k.2 nso _ (st.ext e4).same
        · rw [decide_eq_false (show ¬ (ns.length : Int) = 1 by omega)]
          refine iteT ?_
          unfold tMkOK
          walk_at "go"
          exact kx_sp fun d nd => bad0 h1 d nd
    · refine ⟨nv, net, rfl, hn, hw, by omega, fun hb => (by rw [hbd] at hb; cases hb), fun st' se' hb d H1 e1 nd => ?_⟩
      rw [hbd] at hb
      cases hb
      exact k d H1 e1 nd
end
end Fb

namespace Fb
open PySem PySem.Spec PyProof.Rows L2 PySem.HandSPX SX
/-! ### what the law expects of a state's text -/
def kwAt (i : Nat) : Str := if i = 0 then "next" else "queue"
def rwAt (ls : List (List Nat)) (i : Nat) : Option (List Int) := numsW (kwAt i) (ls.getD i [])
theorem nums_nil {kw : Str} (h : kw ≠ "") : numsW kw [] = none := by
  unfold numsW
  exact if_neg fun e => h (show kw = S [] from e.1.symm)
theorem rwAt_succ (ls : List (List Nat)) (i : Nat) : rwAt ls (i + 1) = qAt ls (i + 1) := by
  unfold rwAt qAt kwAt
  rw [if_neg (by omega), List.getD_eq_getElem?_getD]
  cases e : ls[i + 1]? with
  | none => exact nums_nil (by decide +kernel)
  | some r => rfl
theorem RwOk.nil : RwOk [] := by
  refine ⟨by simp, by simp [spl1, TL.spl], fun w hw => ?_⟩
  have hw : w ∈ [[]] := by simpa [spl1, TL.spl] using hw
  rw [List.mem_singleton.mp hw]
  exact ⟨by simp, fun c h => by simp at h⟩
theorem stR_row {n i : Nat} {l : List Nat} (h0 : ∀ a, a < i → ∃ q, rwAt (spl1 10 l) a = some q ∧ (a = 0 → q.length = 1)) (hi : rwAt (spl1 10 l) i = none ∨ i = n + 1 ∨ i = 0 ∧ ∃ q, rwAt (spl1 10 l) 0 = some q ∧ q.length ≠ 1) (hn : i ≤ n + 1) (hl : i = n + 1 → rwAt (spl1 10 l) i ≠ none ∨ i < (spl1 10 l).length) : stR n l = .error i := by
  have hhd : numsW "next" ((spl1 10 l).headD []) = rwAt (spl1 10 l) 0 := by
    unfold rwAt kwAt
    rw [if_pos rfl]
    cases spl1 10 l <;> rfl
  unfold stR
  rw [hhd]
  cases i with
  | zero =>
    rcases hi with hi | hi | ⟨_, q, hq, h1⟩
    · rw [hi]
    · cases hi
    · rw [hq]
      match q, h1 with
      | [], _ => rfl
      | [x], h1 => exact absurd rfl h1
      | x :: y :: r, _ => rfl
  | succ i =>
    obtain ⟨q0, hq0, h1⟩ := h0 0 (by omega)
    obtain ⟨a, rfl⟩ : ∃ a, q0 = [a] := List.length_eq_one_iff.mp (h1 rfl)
    rw [hq0]
    dsimp only
    have pre : ∀ (p : Nat) (y : Option (List Int)), p < i → (qRows n (spl1 10 l))[p]? = some y → y.isNone = false := fun p y hp hy => by
      unfold qRows at hy
      rw [List.getElem?_map] at hy
      cases e : (List.range n)[p]? with
      | none => rw [e] at hy; cases hy
      | some p' =>
        obtain rfl : p = p' := by
          have := (List.getElem?_eq_some_iff.mp e).2
          simpa using this
        rw [e] at hy
        obtain rfl := Option.some.inj hy
        obtain ⟨q, hq, _⟩ := h0 (p + 1) (by omega)
        rw [rwAt_succ] at hq
        show (qAt (spl1 10 l) (p + 1)).isNone = false
        rw [hq]
        rfl
    by_cases hin : i < n
    · have eq : (qRows n (spl1 10 l))[i]? = some (qAt (spl1 10 l) (i + 1)) := by
        unfold qRows
        rw [List.getElem?_map, List.getElem?_range hin]
        rfl
      rcases hi with hi | hi | ⟨hi, _⟩
      · rw [rwAt_succ] at hi
        rw [findIdx_pre pre eq (by rw [hi]; rfl)]
      · omega
      · omega
    · obtain rfl : i = n := by omega
      rw [findIdx_no fun p y hy => pre p y (by have := (List.getElem?_eq_some_iff.mp hy).1; simpa [qRows] using this) hy]
      dsimp only
      have hlt : i + 1 < (spl1 10 l).length := by
        rcases hl rfl with h | h
        · rw [rwAt_succ] at h
          unfold qAt at h
          by_cases hlt : i + 1 < (spl1 10 l).length
          · exact hlt
          · rw [List.getElem?_eq_none (by omega)] at h
            exact absurd rfl h
        · exact h
      rw [if_pos hlt]
theorem stR_ok {n : Nat} {l : List Nat} {a : Int} {qs : List (List Int)} (h0 : rwAt (spl1 10 l) 0 = some [a]) (hq : ∀ i, i < n → rwAt (spl1 10 l) (i + 1) = some (qs.getD i [])) (hn : qs.length = n) (hl : (spl1 10 l).length ≤ n + 1) : stR n l = .ok (a, qs) := by
  have hhd : numsW "next" ((spl1 10 l).headD []) = rwAt (spl1 10 l) 0 := by
    unfold rwAt kwAt
    rw [if_pos rfl]
    cases spl1 10 l <;> rfl
  have e : qRows n (spl1 10 l) = qs.map some := by
    refine List.ext_getElem? fun i => ?_
    unfold qRows
    rw [List.getElem?_map, List.getElem?_map]
    by_cases hi : i < n
    · rw [List.getElem?_range hi, Option.map_some, ← rwAt_succ, hq i hi, getDs (d := []) (by omega : i < qs.length)]
      rfl
    · rw [List.getElem?_eq_none (by simpa using hi), List.getElem?_eq_none (by omega)]
      rfl
  unfold stR
  rw [hhd, h0]
  dsimp only
  rw [e, findIdx_no fun p y hy => by
    rw [List.getElem?_map] at hy
    cases e : qs[p]? with
    | none => rw [e] at hy; cases hy
    | some q => rw [e] at hy; obtain rfl := Option.some.inj hy; rfl]
  dsimp only
  rw [if_neg (by omega)]
  rw [show (qs.map some).filterMap id = qs by simp]
def spLSt (K : PySem.W.Frag) : Sp := fun vs H Q _ => ∃ (nv : V) (net : List (List Key)) (l : List Nat), vs = [nv, .str (S l)] ∧ Dt K H nv (netD net) ∧ NetOk net ∧ net.length ≤ 6 ∧ TxOk l ∧ ∀ v H', Same H H' → (match stR net.length l with
    | .error i => Dt K H' v (.tuple [.str "InvalidText", .int (i : Int)])
    | .ok (a, qs) => (StOk net a qs → Dt K H' v (stD a qs)) ∧ (¬ StOk net a qs → Dt K H' v (.tuple [.str "InvalidState"]))) → Q v H'
end Fb

namespace Fb
open PySem PySem.Spec PyProof.Rows L2 PySem.HandSPX SX
/-- a comprehension that keeps some of the ints of a list -/
theorem lc_ints {K : PySem.W.Frag} {g : TG} {tt : TT} {te : TE} {vs : List Nat} {σ : L2.St} {H : Hp} {Q : VK} {a : Addr} (p : Int → Bool) (ns : List Int) (hz : ns.length ≤ 90000) (hl : H a = some (.lst (iV ns)))
    (hs : ∀ (n : Int) (H1 : Hp) (N : VK) (M : Hp → Prop), n ∈ ns → Same H H1 → (p n = true → N (.int n) H1) → (p n = false → M H1) → g (.int n) (wipe σ vs) H1 fun σ2 H2 => wipe σ2 vs = wipe σ vs ∧ tt σ2 H2 fun b H3 => if b = true then te σ2 H3 N else M H3)
    (hd : ∀ D H', H D = none → Same H H' → H' D = some (.lst (iV (ns.filter p))) → Q (.ref D) H') : LcIt (Itl K a) g tt te vs σ H Q := by
  refine LcIt.go (walk_list (xs := iV ns)) (fun D i H' => H D = none ∧ Same H H' ∧ H' D = some (.lst (iV ((ns.take i).filter p)))) (fun D hD => ⟨hD, Same.new hD, by rw [upd_same]; rfl⟩) (fun D i H' _ q => SqL.of (q.2.1 _ _ hl)) ?_ (fun D H' q => hd D H' q.1 q.2.1 (by
    rw [q.2.2, iV_len, List.take_length]))
  rintro D i x H1 H' hi ⟨p1, p2, p3⟩ ⟨rfl, hx⟩
  have hi' : i < ns.length := by rw [iV_len] at hi; exact hi
  have e : ns[i]? = some ns[i] := List.getElem?_eq_getElem hi'
  generalize ns[i] = n at e
  obtain rfl : V.int n = x := by
    have hx : (iV ns)[i]? = some x := hx
    unfold iV at hx
    rw [List.getElem?_map, e] at hx
    exact Option.some.inj hx
  have et : ns.take (i + 1) = ns.take i ++ [n] := by rw [List.take_succ, e]; rfl
  refine hs n H' _ _ (List.mem_of_getElem? e) p2 (fun hp => ?_) (fun hp => ?_)
  · refine ⟨_, p3, ?_, p1, fun b o h => by
      rw [upd_ne (ne_of_none h p1)]
      exact p2 b o h, ?_⟩
    · have h1 := List.length_filter_le p (ns.take i)
      rw [List.length_take] at h1
      rw [iV_len]
      exact sz_lt (by omega)
    · rw [upd_same, et, List.filter_append, List.filter_cons, if_pos hp]
      simp [iV]
  · refine ⟨p1, p2, ?_⟩
    rw [p3, et, List.filter_append, List.filter_cons, if_neg (by rw [hp]; decide)]
    simp
theorem cut_1 {x : V} {xs : List V} : cutV (x :: xs) (some 1) none = xs := by
  unfold cutV
  rw [show HT.sIx (x :: xs).length 0 (some 1) = 1 by
    rw [show (some 1 : Option Int) = some ((1 : Nat) : Int) from rfl, HT.sIx_nat]
    exact Nat.min_eq_left (by simp)]
  show (xs.take ((x :: xs).length - 1)) = xs
  exact List.take_of_length_le (by simp)
theorem kwAt_ix (j : Nat) : ∀ b : Bool, b = decide (j = 0) → atI [V.str "queue", V.str "next"] (if b = true then 1 else 0) = some (.str (kwAt j)) := fun b hb => by
  subst hb
  unfold kwAt
  by_cases h : j = 0
  · rw [decide_eq_true h, if_pos rfl, if_pos h]; rfl
  · rw [decide_eq_false h, if_neg (by decide), if_neg h]; rfl
theorem sl_fr {r : V → Option Int → Option Int → Hp → VK → Prop} {te : TE} {th : TE} {σ : L2.St} {H : Hp} {Q : VK} (h : te σ H fun x H1 => th σ H1 fun y H2 => ∃ i : Int, y = .int i ∧ r x (some i) none H2 Q) : tSl r te (tPart th) tNoPart σ H Q := h
theorem nums_len {kw : Str} {r : List Nat} {q : List Int} (h : numsW kw r = some q) (hr : RwOk r) : q.length ≤ 160 := by
  unfold numsW at h
  split at h
  · have := Option.some.inj h
    rw [← this]
    refine Nat.le_trans (List.length_filterMap_le _ _) ?_
    unfold numsL
    rw [List.length_map, List.length_tail]
    have := hr.2.1
    omega
  · cases h
theorem flat_len {B : Nat} : ∀ {qs : List (List Int)}, (∀ q ∈ qs, q.length ≤ B) → qs.flatten.length ≤ B * qs.length
  | [], _ => by simp
  | q :: qs, h => by
    have h1 := h q (List.mem_cons_self ..)
    have h2 := flat_len (qs := qs) fun z hz => h z (List.mem_cons_of_mem _ hz)
    rw [List.flatten_cons, List.length_append, List.length_cons, Nat.mul_succ]
    omega
section
variable {P : Program} {w : World} {K : PySem.W.Frag} {mg : Str → Option Value} {base : Heap}
theorem ok_law_state_of (A : All K mg) (c_law_integer : Cal P w K mg base 1 "_law_integer" (spNumW 1)) : Cal P w K mg base 2 "_law_state_of" (spLSt K) := by
  refine cal_of A.d_law_state_of sc_law_state_of (fun _ _ _ _ _ _ us hl => match us, hl with | [_, _], _ => rfl) (fun vs H Q E h => ?_) (fun f cdv A' outer s H0 vs Q E hr h => ?_)
  · obtain ⟨nv, net, l, rfl, _⟩ := h
    rfl
  · obtain ⟨nv, net, l, rfl, hn, ok, h6, tx, k⟩ := h
    have hu64 := hr.units
    have hrows := tx.rows
    refine ⟨_, (pss_cons (ps_asg (pe_tup (pa_cons (pe_bm PySem.F.plainAttrs_str PySem.F.slot_str_split PySem.F.type_str_split mt_split (pv 1) (pa_cons pe_str pa_nil)) (pa_cons (pe_lst pa_nil) pa_nil))) (k_tg (K := K) (n := 2) rfl rfl (pgs_cons (pg_name (i := 2) sc_law_state_of.nd rfl (Or.inl rfl)) (pgs_cons (pg_name (i := 3) sc_law_state_of.nd rfl (Or.inr rfl)) pgs_nil))))
 (pss_cons (ps_for PassesOwn.never rfl (pi_range1 (by rfl) A.b_range (pa_cons (pe_callB (id := "max") (f_max rfl) (by rfl) A.b_max (by decide +kernel) (pa_cons (pe_callB (id := "len") (k_len (K := K) rfl) (by rfl) A.b_len (by decide +kernel) (pa_cons (pv 2) pa_nil)) (pa_cons (pe_op op_add (pe_callB (id := "len") (k_len (K := K) rfl) (by rfl) A.b_len (by decide +kernel) (pa_cons (pv 0) pa_nil)) pe_int) pa_nil))) pa_nil)) (pg_name (i := 4) sc_law_state_of.nd rfl (Or.inl rfl))
 (pss_cons (ps_set (i := 5) sc_law_state_of.nd rfl (Or.inl rfl) (pe_ifExp (pt_cmpR op_lt (pv 4) (pe_callB (id := "len") (k_len (K := K) rfl) (by rfl) A.b_len (by decide +kernel) (pa_cons (pv 2) pa_nil)) (nomark _)) (pe_bm PySem.F.plainAttrs_str PySem.F.slot_str_split PySem.F.type_str_split mt_split (pe_ix (k_ixL (K := K) rfl) (pv 2) (pv 4) (fun _ _ => rfl)) (pa_cons pe_str pa_nil)) (pe_lst (pa_cons pe_str pa_nil))))
 (pss_cons (ps_setLc (i := 6) rfl sc_law_state_of.nd rfl rfl (sw_true rfl rfl rfl (by decide +kernel)) (k_pl (K := K) rfl (pe_slice sl_list (pv 5) (po_some pe_int) po_none)) (blkOk_by (own := [("_law_word", 11)]) (N := ["_law_network_here", "_law_text", "_law_lines", "_law_rows", "_law_row", "_law_words", "_law_numbers", "_law_waiting", "_law_good", "_law_long", "_law_k", "_law_word", "_law_one"]) (sc := defScope s_law_state_of) (by decide +kernel)) (fun _ _ _ _ _ => (pg_name (i := 11) sc_law_state_of.nd rfl (Or.inl rfl))) (fun _ _ _ _ _ => pts_nil) (fun _ _ _ _ _ => (pc c_law_integer hr (by decide) (pa_cons (pv 11) pa_nil))))
 (pss_cons (ps_if (PW.pt (pw_or (pt_cmpR op_ne (pe_ix (k_ixL (K := K) rfl) (pv 5) pe_int (fun _ _ => rfl)) (pe_ix (k_ixL (K := K) rfl) (pe_lst (pa_cons pe_str (pa_cons pe_str pa_nil))) (pe_callTy (T := "int") f_intB (by rfl) A.b_int (by decide +kernel) (pa_cons (pe_cmpR op_eq (pv 4) pe_int (nomark _)) pa_nil)) (fun _ _ => rfl)) (nomark _)) (pw_or (pt_cmpR (k_in (K := K) rfl) pe_non (pv 6) (by rfl)) (pw_or1 (pt_cmpR op_gt (pv 4) (pe_callB (id := "len") (k_len (K := K) rfl) (by rfl) A.b_len (by decide +kernel) (pa_cons (pv 0) pa_nil)) (nomark _)))))) (pss_one (ps_ret (pe_tup (pa_cons pe_str (pa_cons (pv 4) pa_nil))))) pss_nil)
 (pss_cons (ps_if (PW.pt (pw_and (pt_cmpR op_eq (pv 4) pe_int (nomark _)) (pw_and1 (pt_cmpR op_ne (pe_callB (id := "len") (k_len (K := K) rfl) (by rfl) A.b_len (by decide +kernel) (pa_cons (pv 6) pa_nil)) pe_int (nomark _))))) (pss_one (ps_ret (pe_tup (pa_cons pe_str (pa_cons pe_int pa_nil))))) pss_nil)
 (pss_one (ps_expr (pe_bm PySem.F.plainAttrs_list PySem.F.slot_list_append PySem.F.type_list_append mt_append (pv 3) (pa_cons (pv 6) pa_nil)))))))))
 (pss_cons (ps_set (i := 7) sc_law_state_of.nd rfl (Or.inl rfl) (pe_lst pa_nil))
 (pss_cons (ps_for PassesOwn.never rfl (k_pl (K := K) rfl (pe_slice sl_list (pv 3) (po_some pe_int) po_none)) (pg_name (i := 4) sc_law_state_of.nd rfl (Or.inl rfl))
 (pss_one (ps_set (i := 7) sc_law_state_of.nd rfl (Or.inl rfl) (pe_op op_cat (pv 7) (pv 4)))))
 (pss_cons (ps_set (i := 8) sc_law_state_of.nd rfl (Or.inl rfl) (pe_and (pe_cmpR op_gt (pe_ix (k_ixL (K := K) rfl) (pe_ix (k_ixL (K := K) rfl) (pv 3) pe_int (fun _ _ => rfl)) pe_int (fun _ _ => rfl)) pe_int (nomark _)) (pe_one (pe_cmpR op_eq (pe_lenSetG (X := _) rfl (by rfl) A.b_len (by rfl) A.b_set (pv 7)) (pe_callB (id := "len") (k_len (K := K) rfl) (by rfl) A.b_len (by decide +kernel) (pa_cons (pv 7) pa_nil)) (nomark _)))))
 (pss_cons (ps_set (i := 8) sc_law_state_of.nd rfl (Or.inl rfl) (pe_and (pv 8) (pe_one (pe_cmpR (k_eqD (K := K) rfl hu64) (pe_lc rfl sc_law_state_of.nd (k_pl (K := K) rfl (pv 7)) (blkOk_by (own := [("_law_one", 12)]) (N := ["_law_network_here", "_law_text", "_law_lines", "_law_rows", "_law_row", "_law_words", "_law_numbers", "_law_waiting", "_law_good", "_law_long", "_law_k", "_law_word", "_law_one"]) (sc := defScope s_law_state_of) (by decide +kernel)) (fun _ _ _ _ _ => (pg_name (i := 12) sc_law_state_of.nd rfl (Or.inl rfl))) (fun _ _ _ _ _ => pts_one (pt_not (pt_chain op_le op_lt pe_int (pv 12) (pe_ix (k_ixL (K := K) rfl) (pe_ix (k_ixL (K := K) rfl) (pv 3) pe_int (fun _ _ => rfl)) pe_int (fun _ _ => rfl))))) (fun _ _ _ _ _ => (pv 12))) (pe_lst pa_nil) (nomark _)))))
 (pss_cons (ps_setLc (i := 9) rfl sc_law_state_of.nd rfl rfl (sw_true rfl rfl rfl (by decide +kernel)) (pi_range1 (by rfl) A.b_range (pa_cons (pe_callB (id := "len") (k_len (K := K) rfl) (by rfl) A.b_len (by decide +kernel) (pa_cons (pv 0) pa_nil)) pa_nil)) (blkOk_by (own := [("_law_k", 10)]) (N := ["_law_network_here", "_law_text", "_law_lines", "_law_rows", "_law_row", "_law_words", "_law_numbers", "_law_waiting", "_law_good", "_law_long", "_law_k", "_law_word", "_law_one"]) (sc := defScope s_law_state_of) (by decide +kernel)) (fun _ _ _ _ _ => (pg_name (i := 10) sc_law_state_of.nd rfl (Or.inl rfl))) (fun _ _ _ _ _ => pts_one (pt_cmpR op_ge (pe_callB (id := "len") (k_len (K := K) rfl) (by rfl) A.b_len (by decide +kernel) (pa_cons (pe_ix (k_ixL (K := K) rfl) (pv 3) (pe_op op_add (pv 10) pe_int) (fun _ _ => rfl)) pa_nil)) (pe_callB (id := "len") (k_len (K := K) rfl) (by rfl) A.b_len (by decide +kernel) (pa_cons (pe_ix (k_ixT (K := K) rfl) (pv 0) (pv 10) (fun _ _ => rfl)) pa_nil)) (nomark _))) (fun _ _ _ _ _ => (pv 10)))
 (pss_cons (ps_set (i := 8) sc_law_state_of.nd rfl (Or.inl rfl) (pe_and (pv 8) (pe_one (pe_cmpR (k_eqD (K := K) rfl hu64) (pv 9) (pe_lst pa_nil) (nomark _)))))
 (pss_one (ps_ret (pe_ifExp (pt_val (pv 8)) (pe_tup (pa_cons (pe_ix (k_ixL (K := K) rfl) (pe_ix (k_ixL (K := K) rfl) (pv 3) pe_int (fun _ _ => rfl)) pe_int (fun _ _ => rfl)) (pa_cons (pe_callTy (T := "tuple") (k_tuple (K := K) rfl) (by rfl) A.b_tuple (by decide +kernel) (pa_cons (pe_lc rfl sc_law_state_of.nd (k_pl (K := K) rfl (pe_slice sl_list (pv 3) (po_some pe_int) po_none)) (blkOk_by (own := [("_law_row", 4)]) (N := ["_law_network_here", "_law_text", "_law_lines", "_law_rows", "_law_row", "_law_words", "_law_numbers", "_law_waiting", "_law_good", "_law_long", "_law_k", "_law_word", "_law_one"]) (sc := defScope s_law_state_of) (by decide +kernel)) (fun _ _ _ _ _ => (pg_name (i := 4) sc_law_state_of.nd rfl (Or.inl rfl))) (fun _ _ _ _ _ => pts_nil) (fun _ _ _ _ _ => (pe_callTy (T := "tuple") (k_tuple (K := K) rfl) (by rfl) A.b_tuple (by decide +kernel) (pa_cons (pv 4) pa_nil)))) pa_nil)) pa_nil))) (pe_tup (pa_cons pe_str pa_nil))))))))))))), ?_⟩
    obtain ⟨na, xs, rfl, hna, hxs⟩ := id hn.tup_inv
    have hxl : xs.length = net.length := by rw [hxs.len, List.length_map]
    have st := ((Stt.init H0).know (φ := fun H => TupAt K H na xs) hna Pers.tup).know (φ := fun H => DtAll K H xs (net.map seatsD)) hxs Pers.all
    walk_at "begin"
    refine i_tyX ?_
    walk_at "go"
    refine ⟨S l, "\n", rfl, rfl, by decide +kernel, sz_of (by rw [S_len]; have := tx.len; omega), fun ll nll => ?_⟩
    rw [z_nl, split1 (by decide)]
    have hrow : ∀ r ∈ spl1 10 l, RwOk r := tx.row
    have hpos : (spl1 10 l) ≠ [] := spl_pos 10 0 l []
    have hok : ∀ {i : Nat} {a : Int} {qs : List (List Int)}, True := trivial
    have hE : ∀ (i : Nat), (∀ a, a < i → ∃ q, rwAt (spl1 10 l) a = some q ∧ (a = 0 → q.length = 1)) → (rwAt (spl1 10 l) i = none ∨ i = net.length + 1 ∨ i = 0 ∧ ∃ q, rwAt (spl1 10 l) 0 = some q ∧ q.length ≠ 1) → i ≤ net.length + 1 → (i = net.length + 1 → rwAt (spl1 10 l) i ≠ none ∨ i < (spl1 10 l).length) → stR net.length l = .error i := fun i => stR_row
    have hO : ∀ {a : Int} {qs : List (List Int)}, rwAt (spl1 10 l) 0 = some [a] → (∀ i, i < net.length → rwAt (spl1 10 l) (i + 1) = some (qs.getD i [])) → qs.length = net.length → (spl1 10 l).length ≤ net.length + 1 → stR net.length l = .ok (a, qs) := stR_ok
    generalize hls : spl1 10 l = ls at hrow hrows hpos hE hO
    have st := st.new (o := .lst ((ls.map S).map V.str)) nll trivial
    walk_at "go"
    refine st_newL st (by simp) fun rl nrl st => ?_
    walk_at "go"
    refine ⟨sz_of (by simp), fun tp ntp => ?_⟩
    have st := st.ext (Same.new (o := .tup [.ref ll, .ref rl]) ntp)
    refine i_gtup (xs := [.ref ll, .ref rl]) (SqT.of upd_same) rfl ?_
    walk_at "go"
    refine i_lenL (xs := (ls.map S).map V.str) (st.sqL 0 rfl) ?_
    rw [List.length_map, List.length_map]
    walk_at "go"
    refine i_lenT (xs := xs) (st.pers 0 rfl : TupAt K _ na xs).sq ?_
    rw [hxl]
    walk_at "go"
    obtain ⟨M, hM⟩ : ∃ M : Nat, max (ls.length : Int) ((net.length : Int) + 1) = (M : Int) := ⟨max ls.length (net.length + 1), by omega⟩
    rw [hM]
    refine ⟨_, rfl, by omega, by omega, ForIt.go walk_range (fun j σ H => ∃ s4 s5 s6 as rs, σ = [some (.ref na), some (.str (S l)), some (.ref ll), some (.ref rl), s4, s5, s6, none, none, none, none, none, none] ∧ as.length = j ∧ rs.length = j ∧ j ≤ net.length + 1 ∧ (∀ a, a < j → rwAt ls a = some (rs.getD a []) ∧ (a = 0 → (rs.getD a []).length = 1)) ∧
      Stt [] H0 ([(ll, .lst ((ls.map S).map V.str)), (rl, .lst (as.map V.ref))] ++ rowsL as (rs.map iV)) [fun H => TupAt K H na xs, fun H => DtAll K H xs (net.map seatsD)] H) ⟨_, _, _, [], [], rfl, rfl, rfl, Nat.zero_le _, fun a h => absurd h (Nat.not_lt_zero a), st⟩ (fun _ _ _ _ _ => trivial) ?_ ?_⟩
    · clear st
      rintro j v σ H H' hj ⟨s4, s5, s6, as, rs, rfl, has, hrs, hjn, hpre, st⟩ ⟨rfl, rfl⟩
      have hj : j < M := by omega
      have hR : RwOk (ls.getD j []) := by
        rw [List.getD_eq_getElem?_getD]
        cases e : ls[j]? with
        | none => exact RwOk.nil
        | some r => exact hrow r (List.mem_of_getElem? e)
      walk_at "gi"
      refine i_joinE (fun v H => ∃ wl, v = .ref wl ∧ Stt [] H0 ([(ll, .lst ((ls.map S).map V.str)), (rl, .lst (as.map V.ref))] ++ rowsL as (rs.map iV) ++ [(wl, .lst (((spl1 32 (ls.getD j [])).map S).map V.str))]) [fun H => TupAt K H na xs, fun H => DtAll K H xs (net.map seatsD)] H) (fun N J => ?_) ?_
      · refine i_ifE ?_
        walk_at "go"
        refine i_lenL (xs := (ls.map S).map V.str) (st.sqL 0 rfl) ?_
        rw [List.length_map, List.length_map]
        walk_at "go"
        by_cases hlt : j < ls.length
        · rw [decide_eq_true (show 0 + (j : Int) < (ls.length : Int) by omega)]
          refine iteT ?_
          have er : ls[j]? = some (ls.getD j []) := getDs hlt
          generalize ls.getD j [] = r at er hR J
          walk_at "go"
          refine i_ixL (xs := (ls.map S).map V.str) (v := .str (S r)) (st.sqL 0 rfl) (by rw [Int.zero_add]; exact atI_nat (by rw [List.getElem?_map, List.getElem?_map, er]; rfl)) ?_
          refine i_tyX ?_
          walk_at "go"
          refine ⟨S r, " ", rfl, rfl, by decide +kernel, sz_of (by rw [S_len]; have := hR.1; omega), fun wl nwl => ?_⟩
          rw [z_sp, split1 (by decide)]
          exact J _ _ ⟨wl, rfl, st.new (o := .lst (((spl1 32 r).map S).map V.str)) nwl trivial⟩
        · rw [decide_eq_false (show ¬ 0 + (j : Int) < (ls.length : Int) by omega)]
          refine iteF ?_
          have e0 : ls.getD j [] = [] := by rw [List.getD_eq_getElem?_getD, List.getElem?_eq_none (by omega)]; rfl
          rw [e0] at J
          walk_at "go"
          refine st_newL st (by simp) fun wl nwl st => ?_
          exact J _ _ ⟨wl, rfl, st⟩
      clear st
      rintro v H ⟨wl, rfl, st⟩
      have hrw : rwAt ls j = numsW (kwAt j) (ls.getD j []) := rfl
      generalize ls.getD j [] = r at st hR hrw
      obtain ⟨r1, r2, r3⟩ := hR
      have hsp := row_split r
      generalize hhd : headW r = hd at hsp
      generalize htl : (spl1 32 r).tail = tl at hsp
      rw [hsp] at st
      have hlen : tl.length ≤ 160 := by have := congrArg List.length hsp; rw [List.length_cons] at this; omega
      have hnl : numsL r = tl.map numW := by unfold numsL; rw [htl]
      have hwl : ∀ {H : Hp} {L : List (Addr × HO)} {P : List (Hp → Prop)}, Stt [] H0 ([(ll, .lst ((ls.map S).map V.str)), (rl, .lst (as.map V.ref))] ++ rowsL as (rs.map iV) ++ [(wl, .lst (((hd :: tl).map S).map V.str))] ++ L) P H → SqL K H wl (((hd :: tl).map S).map V.str) := fun st => SqL.of (st.own (wl, _) (by simp))
      walk_at "go"
      refine sl_fr ?_
      walk_at "go"
      refine ⟨_, rfl, wl, ((hd :: tl).map S).map V.str, rfl, SqL.of (st.own (wl, _) (by simp)), fun q nq => ?_⟩
      rw [show ((hd :: tl).map S).map V.str = V.str (S hd) :: (tl.map S).map V.str from rfl, cut_1]
      have st0 := st
      have st := st.ext (Same.new (o := .lst ((tl.map S).map V.str)) nq)
      refine ⟨_, rfl, ⟨_, SqL.of upd_same⟩, LcIt.map (walk_list (xs := (tl.map S).map V.str)) ((numsL r).map oI) (by simp [hnl]) (sz_lt (by simp; omega)) (fun H1 e1 => SqL.of (e1 _ _ upd_same)) ?_ ?_⟩
      · rintro q v y H1 H2 N hq hy1 e1 ⟨rfl, hx1⟩ hN
        have hq' : q < tl.length := by simpa using hq
        have ew : tl[q]? = some tl[q] := List.getElem?_eq_getElem hq'
        generalize tl[q] = w at ew
        obtain ⟨w1, w2⟩ := r3 w (by rw [hsp]; exact List.mem_cons_of_mem _ (List.mem_of_getElem? ew))
        have hx1 : ((tl.map S).map V.str)[q]? = some v := hx1
        obtain rfl : V.str (S w) = v := by
          rw [List.getElem?_map, List.getElem?_map, ew] at hx1
          exact Option.some.inj hx1
        obtain rfl : oI (numW w) = y := by
          rw [hnl, List.getElem?_map, List.getElem?_map, ew] at hy1
          exact Option.some.inj hy1
        walk_at "go"
        refine ⟨rfl, ?_⟩
        walk_at "go"
        exact ⟨w, rfl, w1, w2, fun H4 e4 => hN H4 e4⟩
      · intro D H2 nD e2 hD
        have st := st.fresh nD e2 hD trivial
        clear st0
        have stop : ∀ {H3 : Hp} {L : List (Addr × HO)}, Stt [] H0 L [fun H => TupAt K H na xs, fun H => DtAll K H xs (net.map seatsD)] H3 → (rwAt ls j = none ∨ j = net.length + 1 ∨ j = 0 ∧ ∃ q, rwAt ls 0 = some q ∧ q.length ≠ 1) → ∀ {i : Int}, i = (j : Int) → ∀ p, H3 p = none → Q (.ref p) (upd H3 p (.tup [.str "InvalidText", .int i])) := by
          rintro H3 L st hc i rfl p np
          have st := st.newT K np (xs := [.str "InvalidText", .int (j : Int)])
          rw [hE j (fun a ha => ⟨_, (hpre a ha).1, (hpre a ha).2⟩) hc hjn (fun e => .inr (by omega))] at k
          exact k _ _ st.same (.tup (st.pers 2 rfl) (.cons (.str _) (.cons (.int _) .nil)))
        walk_at "gi"
        try dsimp only [List.set_cons_zero, List.set_cons_succ]
        refine i_joinI (fun σ' H' => ∃ q, σ' = [some (.ref na), some (.str (S l)), some (.ref ll), some (.ref rl), some (.int (0 + (j : Int))), some (.ref wl), some (.ref D), none, none, none, none, none, none] ∧ j ≤ net.length ∧ rwAt ls j = some q ∧ Stt [] H0 ([(ll, .lst ((ls.map S).map V.str)), (rl, .lst (as.map V.ref))] ++ rowsL as (rs.map iV) ++ [(D, .lst (iV q))]) [fun H => TupAt K H na xs, fun H => DtAll K H xs (net.map seatsD)] H') (fun N J => ?_) ?_
        · walk_at "go"
          refine i_ixL (xs := ((hd :: tl).map S).map V.str) (v := .str (S hd)) (hwl st) (by simp [atI, ixN]) ?_
          walk_at "go"
          refine st_newL st (by simp) fun t2 nt2 st => ?_
          walk_at "go"
          refine i_ixL (xs := [.str "queue", .str "next"]) (v := .str (kwAt j)) (SqL.of upd_same) (kwAt_ix j _ (by rw [Bool.eq_iff_iff]; simp)) ?_
          walk_at "go"
          by_cases hk : S hd = kwAt j
          · rw [decide_eq_true hk]
            refine iteF ?_
            walk_at "go"
            refine ⟨D, (numsL r).map oI, rfl, .inl (SqL.of (st.own (D, _) (by simp))), rfl, flat_oI _, ?_⟩
            rw [if_neg (by decide), inV_noneI]
            refine ⟨_, rfl, ?_⟩
            cases hb : nonesI (numsL r) with
            | true =>
              refine iteT ?_
              refine iteT ?_
              walk_at "go"
              refine ⟨sz_of (by simp), stop st (.inl ?_) (by omega)⟩
              rw [hrw]
              exact if_neg fun h => by rw [hb] at h; exact nomatch h.2
            | false =>
              have e : rwAt ls j = some ((numsL r).filterMap id) := by
                rw [hrw]
                exact if_pos ⟨by rw [hhd]; exact hk, hb⟩
              refine iteF ?_
              walk_at "go"
              refine i_lenT (xs := xs) (st.pers 0 rfl : TupAt K _ na xs).sq ?_
              rw [hxl]
              walk_at "go"
              by_cases hjn2 : net.length < j
              · rw [decide_eq_true (show (net.length : Int) < 0 + (j : Int) by omega)]
                refine iteT ?_
                walk_at "go"
                exact ⟨sz_of (by simp), stop st (.inr (.inl (by omega))) (by omega)⟩
              · rw [decide_eq_false (show ¬ (net.length : Int) < 0 + (j : Int) by omega)]
                refine iteF ?_
                refine i_next ?_
                refine J _ _ ⟨_, rfl, by omega, e, ?_⟩
                rw [some_rowI hb] at st
                have st := st.sub (List.sublist_append_left _ _)
                exact st.sub (List.Sublist.append_right (List.sublist_append_left _ _) _)
          · rw [decide_eq_false hk]
            refine iteT ?_
            refine iteT ?_
            walk_at "go"
            refine ⟨sz_of (by simp), stop st (.inl ?_) (by omega)⟩
            rw [hrw]
            exact if_neg fun h => hk (by rw [← hhd]; exact h.1)
        clear st
        rintro σ H3 ⟨q, rfl, hjn2, hq, st⟩
        walk_at "gi"
        refine i_joinI (fun σ' H' => σ' = [some (.ref na), some (.str (S l)), some (.ref ll), some (.ref rl), some (.int (0 + (j : Int))), some (.ref wl), some (.ref D), none, none, none, none, none, none] ∧ (j = 0 → q.length = 1) ∧ Stt [] H0 ([(ll, .lst ((ls.map S).map V.str)), (rl, .lst (as.map V.ref))] ++ rowsL as (rs.map iV) ++ [(D, .lst (iV q))]) [fun H => TupAt K H na xs, fun H => DtAll K H xs (net.map seatsD)] H') (fun N J => ?_) ?_
        · walk_at "go"
          by_cases hj0 : j = 0
          · rw [decide_eq_true (show 0 + (j : Int) = 0 by omega)]
            refine iteT ?_
            walk_at "go"
            refine i_lenL (xs := iV q) (SqL.of (st.own (D, _) (by simp))) ?_
            rw [iV_len]
            walk_at "go"
            by_cases h1 : q.length = 1
            · rw [decide_eq_true (show (q.length : Int) = 1 by omega)]
              refine iteF ?_
              refine i_next ?_
              exact J _ _ ⟨rfl, fun _ => h1, st⟩
            · rw [decide_eq_false (show ¬ (q.length : Int) = 1 by omega)]
              refine iteT ?_
              walk_at "go"
              exact ⟨sz_of (by simp), stop st (.inr (.inr ⟨hj0, q, by rw [← hj0]; exact hq, h1⟩)) (by omega)⟩
          · rw [decide_eq_false (show ¬ 0 + (j : Int) = 0 by omega)]
            refine iteF ?_
            refine iteF ?_
            refine i_next ?_
            exact J _ _ ⟨rfl, fun h => absurd h hj0, st⟩
        clear st
        rintro σ H3 ⟨rfl, h1, st⟩
        walk_at "go"
        refine i_tyL (xs := as.map V.ref) (st.sqL 1 rfl) ?_
        walk_at "go"
        refine st_append st 1 rfl (by rw [List.length_map]; omega) fun H4 st => ?_
        refine ⟨_, _, _, as ++ [D], rs ++ [q], rfl, by rw [List.length_append, has]; rfl, by rw [List.length_append, hrs]; rfl, by omega, fun a ha => ?_, ?_⟩
        · rcases Nat.lt_succ_iff_lt_or_eq.mp ha with h | h
          · rw [List.getD_eq_getElem?_getD, List.getElem?_append_left (by omega), ← List.getD_eq_getElem?_getD]
            exact hpre a h
          · subst h
            rw [List.getD_eq_getElem?_getD, List.getElem?_append_right (by omega), hrs, Nat.sub_self]
            exact ⟨hq, h1⟩
        · rw [List.map_append (l₁ := rs), show [q].map iV = [iV q] from rfl, rowsL_snoc (by rw [List.length_map]; omega), List.map_append]
          exact st
    · clear st
      rintro σ H ⟨s4, s5, s6, as, rs, rfl, has, hrs, hjn, hpre, st⟩
      have hMn : M = net.length + 1 ∧ ls.length ≤ net.length + 1 := by omega
      obtain ⟨hMn1, hMn2⟩ := hMn
      obtain ⟨q0, qs, rfl⟩ : ∃ q0 qs, rs = q0 :: qs := by
        cases rs with
        | nil => rw [List.length_nil] at hrs; omega
        | cons x y => exact ⟨x, y, rfl⟩
      obtain ⟨a0, at', rfl⟩ : ∃ a0 at', as = a0 :: at' := by
        cases as with
        | nil => rw [List.length_nil] at has; omega
        | cons x y => exact ⟨x, y, rfl⟩
      have hqs : qs.length = net.length := by rw [List.length_cons] at hrs; omega
      have hat : at'.length = qs.length := by rw [List.length_cons] at has hrs; omega
      obtain ⟨h00, h01⟩ := hpre 0 (by omega)
      obtain ⟨a, rfl⟩ : ∃ a, q0 = [a] := List.length_eq_one_iff.mp (h01 rfl)
      have hR : stR net.length l = .ok (a, qs) := hO h00 (fun i hi => (hpre (i + 1) (by omega)).1) hqs hMn2
      rw [hR] at k
      dsimp only at k
      have hq160 : ∀ q ∈ qs, q.length ≤ 160 := by
        intro q hq
        obtain ⟨i, hi⟩ := List.getElem?_of_mem hq
        have hil := (List.getElem?_eq_some_iff.mp hi).1
        have e := (hpre (i + 1) (by omega)).1
        rw [show (([a] :: qs).getD (i + 1) []) = q by rw [List.getD_eq_getElem?_getD, List.getElem?_cons_succ, hi]; rfl] at e
        refine nums_len e ?_
        rw [List.getD_eq_getElem?_getD]
        cases e : ls[i + 1]? with
        | none => exact RwOk.nil
        | some r => exact hrow r (List.mem_of_getElem? e)
      have hfl : qs.flatten.length ≤ 960 := by
        have := flat_len hq160
        have := Nat.mul_le_mul_left 160 (show qs.length ≤ 6 by omega)
        omega
      clear hpre hO hE hrow h00 h01 hR
      have hal : ∀ {q : Nat} {r : List Int}, ([a] :: qs)[q]? = some r → ∀ {H : Hp} {L : List (Addr × HO)} {P : List (Hp → Prop)}, Stt [] H0 ([(ll, .lst ((ls.map S).map V.str)), (rl, .lst ((a0 :: at').map V.ref))] ++ rowsL (a0 :: at') (([a] :: qs).map iV) ++ L) P H → ∃ b, (a0 :: at')[q]? = some b ∧ H b = some (.lst (iV r)) := fun {q r} e {H L P} st => by
        obtain ⟨b, h1, h2⟩ := rowsL_get (as := a0 :: at') (rs := ([a] :: qs).map iV) (by rw [List.length_map, List.length_cons, List.length_cons, hat]) (by rw [List.getElem?_map, e]; rfl)
        exact ⟨b, h1, st.own (b, .lst _) (List.mem_append_left _ (List.mem_append_right _ (List.mem_of_getElem? h2)))⟩
      have hrl : ∀ {H : Hp} {L : List (Addr × HO)} {P : List (Hp → Prop)}, Stt [] H0 ([(ll, .lst ((ls.map S).map V.str)), (rl, .lst ((a0 :: at').map V.ref))] ++ rowsL (a0 :: at') (([a] :: qs).map iV) ++ L) P H → SqL K H rl ((a0 :: at').map V.ref) := fun st => SqL.of (st.own (rl, _) (by simp))
      have h0a : ∀ {H : Hp} {L : List (Addr × HO)} {P : List (Hp → Prop)}, Stt [] H0 ([(ll, .lst ((ls.map S).map V.str)), (rl, .lst ((a0 :: at').map V.ref))] ++ rowsL (a0 :: at') (([a] :: qs).map iV) ++ L) P H → SqL K H a0 (iV [a]) := fun st => by
        obtain ⟨b, h1, h2⟩ := hal (q := 0) rfl st
        rw [← Option.some.inj h1] at h2
        exact SqL.of h2
      have st : Stt [] H0 ([(ll, .lst ((ls.map S).map V.str)), (rl, .lst ((a0 :: at').map V.ref))] ++ rowsL (a0 :: at') (([a] :: qs).map iV) ++ []) [fun H => TupAt K H na xs, fun H => DtAll K H xs (net.map seatsD)] H := by rw [List.append_nil]; exact st
      walk_at "go"
      refine st_newL st (by simp) fun wt nwt st => ?_
      walk_at "go"
      refine sl_fr ?_
      walk_at "go"
      refine ⟨_, rfl, rl, (a0 :: at').map V.ref, rfl, hrl (L := [(wt, .lst [])]) (by simpa using st), fun q2 nq2 => ?_⟩
      rw [show (a0 :: at').map V.ref = V.ref a0 :: at'.map V.ref from rfl, cut_1]
      have st := st.new (o := .lst (at'.map V.ref)) nq2 trivial
      have st := st.perm (L' := [(ll, .lst ((ls.map S).map V.str)), (rl, .lst ((a0 :: at').map V.ref))] ++ rowsL (a0 :: at') (([a] :: qs).map iV) ++ [(wt, .lst (iV (qs.take 0).flatten)), (q2, .lst (at'.map V.ref))]) (List.Perm.of_eq (by simp [iV]))
      refine ⟨q2, rfl, ⟨_, SqL.of upd_same⟩, ForIt.go (walk_list (xs := at'.map V.ref)) (fun j σ H => ∃ s4 wt, σ = [some (.ref na), some (.str (S l)), some (.ref ll), some (.ref rl), s4, s5, s6, some (.ref wt), none, none, none, none, none] ∧ Stt [] H0 ([(ll, .lst ((ls.map S).map V.str)), (rl, .lst ((a0 :: at').map V.ref))] ++ rowsL (a0 :: at') (([a] :: qs).map iV) ++ [(wt, .lst (iV (qs.take j).flatten)), (q2, .lst (at'.map V.ref))]) [fun H => TupAt K H na xs, fun H => DtAll K H xs (net.map seatsD)] H) ⟨_, wt, rfl, st⟩ (fun j σ H _ p => ?_) ?_ ?_⟩
      · obtain ⟨_, wt, _, st⟩ := p
        exact SqL.of (st.own (q2, _) (by simp))
      · clear st
        rintro j v σ H H' hj ⟨s4, wt, rfl, st⟩ ⟨rfl, hx⟩
        have hj : j < qs.length := by rw [List.length_map] at hj; omega
        have eq : qs[j]? = some (qs.getD j []) := getDs hj
        generalize qs.getD j [] = q at eq
        obtain ⟨b, hb1, hb2⟩ := hal (q := j + 1) (r := q) (by rw [List.getElem?_cons_succ]; exact eq) st
        have hx : (at'.map V.ref)[j]? = some v := hx
        obtain rfl : V.ref b = v := by
          rw [List.getElem?_cons_succ] at hb1
          rw [List.getElem?_map, hb1] at hx
          exact Option.some.inj hx
        have hwt : H' wt = some (.lst (iV (qs.take j).flatten)) := st.own (wt, _) (by simp)
        have hfj : (qs.take (j + 1)).flatten = (qs.take j).flatten ++ q := by
          rw [List.take_succ, eq, List.flatten_append]
          simp
        have hfl2 : (qs.take (j + 1)).flatten.length ≤ 960 := by
          have := congrArg List.length (show qs.flatten = (qs.take (j + 1)).flatten ++ (qs.drop (j + 1)).flatten by rw [← List.flatten_append, List.take_append_drop])
          rw [List.length_append] at this
          omega
        rw [hfj, List.length_append] at hfl2
        walk_at "go"
        refine st_cat st hwt hb2 (by rw [iV_len, iV_len]; omega) fun p H3 np e3 st => ?_
        walk_at "go"
        refine ⟨_, p, rfl, ?_⟩
        have e1 : iV (qs.take (j + 1)).flatten = iV (qs.take j).flatten ++ iV q := by
          rw [hfj]
          unfold iV
          rw [List.map_append]
        rw [e1]
        have st := st.sub (L' := [(ll, .lst ((ls.map S).map V.str)), (rl, .lst ((a0 :: at').map V.ref))] ++ rowsL (a0 :: at') (([a] :: qs).map iV) ++ [(q2, .lst (at'.map V.ref))] ++ [(p, .lst (iV (qs.take j).flatten ++ iV q))]) (List.Sublist.append_right (List.Sublist.append_left (List.sublist_cons_self _ _) _) _)
        refine st.perm ?_
        rw [List.append_assoc]
        exact List.Perm.append_left _ (List.Perm.swap _ _ _)
      · clear st
        rintro σ H ⟨s4, wt, rfl, st⟩
        rw [show (qs.take (at'.map V.ref).length).flatten = qs.flatten by rw [List.length_map, List.take_of_length_le (by omega)]] at st
        have st : Stt [] H0 ([(ll, .lst ((ls.map S).map V.str)), (rl, .lst ((a0 :: at').map V.ref))] ++ rowsL (a0 :: at') (([a] :: qs).map iV) ++ [(wt, .lst (iV qs.flatten))]) [fun H => TupAt K H na xs, fun H => DtAll K H xs (net.map seatsD)] H := st.sub (List.Sublist.append_left (by simp) _)
        have hwt : ∀ {H : Hp} {L : List (Addr × HO)} {P : List (Hp → Prop)}, Stt [] H0 ([(ll, .lst ((ls.map S).map V.str)), (rl, .lst ((a0 :: at').map V.ref))] ++ rowsL (a0 :: at') (([a] :: qs).map iV) ++ ([(wt, .lst (iV qs.flatten))] ++ L)) P H → H wt = some (.lst (iV qs.flatten)) := fun st => st.own (wt, _) (by simp)
        generalize hBS : [(ll, HO.lst ((ls.map S).map V.str)), (rl, HO.lst ((a0 :: at').map V.ref))] ++ rowsL (a0 :: at') (([a] :: qs).map iV) = BS at st hal hrl h0a hwt
        walk_at "gi"
        refine i_joinA (fun v H' => ∃ b : Bool, v = .bl b ∧ (b = true ↔ 0 < a ∧ qs.flatten.Nodup) ∧ Stt [] H0 (BS ++ [(wt, .lst (iV qs.flatten))]) [fun H => TupAt K H na xs, fun H => DtAll K H xs (net.map seatsD)] H') (fun N J => ?_) ?_
        · refine i_andV ?_
          walk_at "go"
          refine i_ixL (xs := (a0 :: at').map V.ref) (v := .ref a0) (hrl st) (by simp [atI, ixN]) ?_
          walk_at "go"
          refine i_ixL (xs := iV [a]) (v := .int a) (h0a st) (by simp [atI, ixN, iV]) ?_
          walk_at "go"
          by_cases ha : 0 < a
          · rw [decide_eq_true ha]
            refine iteT ?_
            walk_at "go"
            refine i_lenSetG ?_
            walk_at "go"
            refine ⟨wt, qs.flatten, rfl, SqL.of (hwt (L := []) (by simpa using st)), by omega, fun c hc => ?_⟩
            walk_at "go"
            refine i_lenL (xs := iV qs.flatten) (SqL.of (hwt (L := []) (by simpa using st))) ?_
            rw [iV_len]
            walk_at "go"
            refine J _ _ ⟨_, rfl, ?_, st⟩
            rw [decide_eq_true_iff]
            constructor
            · intro h
              exact ⟨ha, hc.mp (by omega)⟩
            · intro h
              have := hc.mpr h.2
              omega
          · rw [decide_eq_false ha]
            refine iteF ?_
            exact J _ _ ⟨_, rfl, ⟨fun h => (nomatch h), fun h => absurd h.1 ha⟩, st⟩
        clear st
        rintro v H2 ⟨b1, rfl, hb1, st⟩
        walk_at "gi"
        refine i_joinA (fun v H' => ∃ b : Bool, v = .bl b ∧ (b = true ↔ (0 < a ∧ qs.flatten.Nodup) ∧ ∀ p ∈ qs.flatten, 1 ≤ p ∧ p < a) ∧ Stt [] H0 (BS ++ [(wt, .lst (iV qs.flatten))]) [fun H => TupAt K H na xs, fun H => DtAll K H xs (net.map seatsD)] H') (fun N J => ?_) ?_
        · refine i_andV ?_
          walk_at "go"
          cases b1 with
          | false =>
            refine iteF ?_
            exact J _ _ ⟨_, rfl, ⟨fun h => (nomatch h), fun h => (by have := hb1.mpr h.1; exact nomatch this)⟩, st⟩
          | true =>
            refine iteT ?_
            walk_at "go"
            have hw2 := hwt (L := []) (by simpa using st)
            refine ⟨wt, rfl, ⟨_, SqL.of hw2⟩, lc_ints (fun n => !(decide (1 ≤ n) && decide (n < a))) qs.flatten (by omega) hw2 (fun n H3 N M hn e3 hT hF => ?_) fun D H3 nD e3 hD => ?_⟩
            · have st := st.ext e3
              walk_at "go"
              refine ⟨rfl, ?_⟩
              walk_at "go"
              by_cases h1 : 1 ≤ n
              · rw [decide_eq_true h1]
                refine iteT ?_
                walk_at "go"
                refine i_ixL (xs := (a0 :: at').map V.ref) (v := .ref a0) (hrl st) (by simp [atI, ixN]) ?_
                walk_at "go"
                refine i_ixL (xs := iV [a]) (v := .int a) (h0a st) (by simp [atI, ixN, iV]) ?_
                walk_at "go"
                by_cases h2 : n < a
                · rw [decide_eq_true h2]
                  refine iteF ?_
                  exact hF (by rw [decide_eq_true h1, decide_eq_true h2]; rfl)
                · rw [decide_eq_false h2]
                  refine iteT ?_
                  walk_at "go"
                  exact hT (by rw [decide_eq_true h1, decide_eq_false h2]; rfl)
              · rw [decide_eq_false h1]
                refine iteF ?_
                walk_at "go"
                refine iteT ?_
                walk_at "go"
                exact hT (by rw [decide_eq_false h1]; rfl)
            · have st := st.fresh nD e3 hD trivial
              refine st_newL st (by simp) fun zl nzl st => ?_
              refine i_eqNil (ns := qs.flatten.filter fun n => !(decide (1 ≤ n) && decide (n < a))) (SqL.of (st.own (D, _) (by simp))) (SqL.of upd_same) ?_
              refine J _ _ ⟨_, rfl, ?_, (st.sub (List.sublist_append_left _ _)).sub (List.sublist_append_left _ _)⟩
              rw [decide_eq_true_iff, List.filter_eq_nil_iff]
              constructor
              · intro h
                refine ⟨hb1.mp rfl, fun p hp => ?_⟩
                have := h p hp
                simpa using this
              · intro h p hp
                have := h.2 p hp
                simpa using this
        clear st hb1
        rintro v H3 ⟨b2, rfl, hb2, st⟩
        walk_at "go"
        refine i_lenT (xs := xs) (st.pers 0 rfl : TupAt K _ na xs).sq ?_
        rw [hxl]
        walk_at "go"
        try dsimp only [List.set_cons_zero, List.set_cons_succ]
        refine ⟨_, rfl, by omega, by omega, lc_range (fun i => decide ((net.getD i []).length ≤ (qs.getD i []).length)) net.length (by omega) (fun i H1 N M hi e1 hT hF => ?_) fun D3 H4 nD3 e3 hD3 => ?_⟩
        · have st := st.ext e1
          have eq : qs[i]? = some (qs.getD i []) := getDs (by omega)
          have en : net[i]? = some (net.getD i []) := getDs hi
          generalize qs.getD i [] = q at eq hT hF
          generalize net.getD i [] = seats at en hT hF
          obtain ⟨b, hb3, hb4⟩ := hal (q := i + 1) (r := q) (by rw [List.getElem?_cons_succ]; exact eq) st
          have hxi : xs[i]? = some (xs[i]'(by omega)) := List.getElem?_eq_getElem (by omega)
          generalize xs[i]'(by omega) = xi at hxi
          obtain ⟨seats2, sa, hse, rfl, hsa⟩ := net_at (st.pers 1 rfl : DtAll K _ xs (net.map seatsD)) hxi
          obtain rfl : seats = seats2 := Option.some.inj (en.symm.trans hse)
          walk_at "go"
          refine ⟨rfl, ?_⟩
          walk_at "go"
          refine i_ixL (xs := (a0 :: at').map V.ref) (v := .ref b) (hrl st) (by rw [show 0 + (i : Int) + 1 = ((i + 1 : Nat) : Int) by omega]; exact atI_nat (by rw [List.getElem?_map, hb3]; rfl)) ?_
          walk_at "go"
          refine i_lenL (xs := iV q) (SqL.of hb4) ?_
          rw [iV_len]
          walk_at "go"
          refine i_ixT (xs := xs) (v := .ref sa) (st.pers 0 rfl : TupAt K _ na xs).sq (by rw [Int.zero_add]; exact atI_nat hxi) ?_
          walk_at "go"
          refine i_lenT (xs := seats.map kV) hsa.sq ?_
          rw [List.length_map]
          walk_at "go"
          by_cases hle : seats.length ≤ q.length
          · rw [decide_eq_true (show (seats.length : Int) ≤ (q.length : Int) by omega)]
            refine iteT ?_
            walk_at "go"
            rw [Int.zero_add]
            exact hT (decide_eq_true hle)
          · rw [decide_eq_false (show ¬ (seats.length : Int) ≤ (q.length : Int) by omega)]
            refine iteF ?_
            exact hF (decide_eq_false hle)
        have st := st.fresh nD3 e3 hD3 trivial
        walk_at "gi"
        refine i_joinA (fun v H' => ∃ b : Bool, v = .bl b ∧ (b = true ↔ StOk net a qs) ∧ Stt [] H0 (BS ++ [(wt, .lst (iV qs.flatten))]) [fun H => TupAt K H na xs, fun H => DtAll K H xs (net.map seatsD)] H') (fun N J => ?_) ?_
        · refine i_andV ?_
          walk_at "go"
          cases b2 with
          | false =>
            refine iteF ?_
            refine J _ _ ⟨_, rfl, ⟨fun h => (nomatch h), fun so => ?_⟩, st.sub (List.sublist_append_left _ _)⟩
            have := hb2.mpr ⟨⟨by have := so.one; omega, so.nodup⟩, so.rng⟩
            exact nomatch this
          | true =>
            refine iteT ?_
            walk_at "go"
            refine st_newL st (by simp) fun zl nzl st => ?_
            refine i_eqNil (ns := ((List.range net.length).filter fun i => decide ((net.getD i []).length ≤ (qs.getD i []).length)).map fun (i : Nat) => (i : Int)) (SqL.of (st.own (D3, _) (by simp))) (SqL.of upd_same) ?_
            refine J _ _ ⟨_, rfl, ?_, (st.sub (List.sublist_append_left _ _)).sub (List.sublist_append_left _ _)⟩
            obtain ⟨⟨g1, g2⟩, g3⟩ := hb2.mp rfl
            rw [decide_eq_true_iff, List.map_eq_nil_iff, List.filter_eq_nil_iff, stOk_iff]
            constructor
            · intro h
              refine ⟨by omega, hqs, fun i q seats h1 h2 => ?_, g2, g3⟩
              have hi := (List.getElem?_eq_some_iff.mp h2).1
              have := h i (List.mem_range.mpr hi)
              rw [List.getD_eq_getElem?_getD, h2, List.getD_eq_getElem?_getD, h1] at this
              simpa using this
            · rintro ⟨_, _, h3, _⟩ i hi
              have hi := List.mem_range.mp hi
              have := h3 i _ _ (getDs (d := []) (by omega)) (getDs (d := []) hi)
              simpa using this
        clear st hb2
        rintro v H5 ⟨b3, rfl, hb3, st⟩
        walk_at "go"
        cases b3 with
        | false =>
          refine iteF ?_
          walk_at "go"
          refine st_newT K st (by simp) fun tq ntq st => ?_
          refine k _ _ st.same ⟨fun so => (by have := hb3.mpr so; exact nomatch this), fun _ => .tup (st.pers 2 rfl) (.cons (.str _) .nil)⟩
        | true =>
          have so := hb3.mp rfl
          refine iteT ?_
          walk_at "go"
          refine i_ixL (xs := (a0 :: at').map V.ref) (v := .ref a0) (hrl st) (by simp [atI, ixN]) ?_
          walk_at "go"
          refine i_ixL (xs := iV [a]) (v := .int a) (h0a st) (by simp [atI, ixN, iV]) ?_
          walk_at "go"
          refine sl_fr ?_
          walk_at "go"
          refine ⟨_, rfl, rl, (a0 :: at').map V.ref, rfl, hrl st, fun q3 nq3 => ?_⟩
          rw [show (a0 :: at').map V.ref = V.ref a0 :: at'.map V.ref from rfl, cut_1]
          have st := (st.sub (List.sublist_append_left _ _)).new (o := .lst (at'.map V.ref)) nq3 trivial
          refine ⟨q3, rfl, ⟨_, SqL.of upd_same⟩, LcIt.go (walk_list (xs := at'.map V.ref)) (fun D4 q H => ∃ vs, vs.length = q ∧ Stt [] H0 (BS ++ ([(q3, .lst (at'.map V.ref))] ++ [(D4, .lst vs)])) [fun H => DtAll K H vs ((qs.take q).map intsD)] H) (fun D4 hD4 => ⟨[], rfl, ?_⟩) (fun D4 q H _ p => ?_) ?_ ?_⟩
          · have st := ((st.new (o := .lst []) hD4 trivial).know (φ := fun H => DtAll K H [] ((qs.take 0).map intsD)) .nil Pers.all).only (P' := [fun H => DtAll K H [] ((qs.take 0).map intsD)]) [2] rfl
            rw [List.append_assoc] at st
            exact st
          · obtain ⟨vs, _, st⟩ := p
            exact SqL.of (st.own (q3, _) (by simp))
          · clear st
            rintro D4 q v H1 H2 hq ⟨vs, hvl, st⟩ ⟨rfl, hx⟩
            have hq : q < qs.length := by rw [List.length_map] at hq; omega
            have eq : qs[q]? = some (qs.getD q []) := getDs hq
            generalize qs.getD q [] = r at eq
            obtain ⟨b, hb5, hb6⟩ := hal (q := q + 1) (r := r) (by rw [List.getElem?_cons_succ]; exact eq) st
            have hx : (at'.map V.ref)[q]? = some v := hx
            obtain rfl : V.ref b = v := by
              rw [List.getElem?_cons_succ] at hb5
              rw [List.getElem?_map, hb5] at hx
              exact Option.some.inj hx
            walk_at "go"
            refine ⟨rfl, ?_⟩
            walk_at "go"
            refine iteT ?_
            walk_at "go"
            refine st_tupleL st (ys := iV r) (SqL.of hb6) fun tp H5 ntp st => ?_
            have d1 : DtAll K H5 vs ((qs.take q).map intsD) := st.pers 0 rfl
            have hdall : DtAll K H5 (vs ++ [.ref tp]) ((qs.take (q + 1)).map intsD) := by
              rw [List.take_succ, eq, List.map_append]
              exact d1.snoc (.tup (st.pers 1 rfl) (DtAll.of_ints r))
            refine ⟨vs, st.own (D4, _) (by simp), sz_lt (by omega), vs ++ [V.ref tp], by rw [List.length_append, hvl]; rfl, ?_⟩
            have st := (st.know (φ := fun H => DtAll K H (vs ++ [.ref tp]) ((qs.take (q + 1)).map intsD)) hdall Pers.all).only (P' := [fun H => DtAll K H (vs ++ [.ref tp]) ((qs.take (q + 1)).map intsD)]) [2] rfl
            rw [← List.append_assoc] at st ⊢
            have st := (st.perm List.perm_append_comm).set 0 (o' := .lst (vs ++ [V.ref tp])) rfl trivial
            exact st.perm (show List.Perm _ _ from (List.perm_append_comm (l₁ := [(D4, HO.lst (vs ++ [V.ref tp]))])))
          · clear st
            rintro D4 H4 ⟨vs, hvl, st⟩
            rw [show (qs.take (at'.map V.ref).length).map intsD = qs.map intsD by rw [List.length_map, List.take_of_length_le (by omega)]] at st
            walk_at "go"
            refine st_tupleL st (ys := vs) (SqL.of (st.own (D4, _) (by simp))) fun tv H5 ntv st => ?_
            walk_at "go"
            refine st_newT K st (by simp) fun sv nsv st => ?_
            exact k _ _ st.same ⟨fun _ => .tup (st.pers 2 rfl) (.cons (.int _) (.cons (.tup (st.pers 1 rfl) (st.pers 0 rfl)) .nil)), fun n => absurd so n⟩
end
end Fb

namespace Fb
open PySem PySem.Spec PyProof.Rows L2 PySem.HandSPX SX
/-! ### networks and states as texts -/
def keyT : Key → List Nat
  | .inl i => TL.numL i.toNat
  | .inr z => z.cps.toList
def rowT (seats : List Key) : List Nat := TL.joinL [32] (seats.map keyT)
def netT (net : List (List Key)) : List Nat := TL.joinL [10] (net.map rowT)
def nextL : List Nat := [110, 101, 120, 116]
def queueL : List Nat := [113, 117, 101, 117, 101]
def numT (p : Int) : List Nat := TL.numL p.toNat
def quW (q : List Int) : List (List Nat) := queueL :: q.map numT
def stW (n : Int) (qs : List (List Int)) : List (List (List Nat)) := [nextL, numT n] :: qs.map quW
def stT (n : Int) (qs : List (List Int)) : List Nat := TL.joinL [10] ((stW n qs).map fun ws => TL.joinL [32] ws)
theorem z_next : ("next" : Str) = S nextL := by decide +kernel
theorem z_queue : ("queue" : Str) = S queueL := by decide +kernel
section
variable {sep cnt : Nat → Bool} {n : Nat}
theorem Bd.join {c : Nat} (hc : sep c = true) : ∀ ls : List (List Nat), (∀ r ∈ ls, Bd sep cnt n r) → Bd sep cnt n (TL.joinL [c] ls)
  | [], _ => Bd.nil
  | [x], h => h x (by simp)
  | x :: y :: r, h => by
    rw [joinL_cons2]
    exact Bd.cut hc (h x (by simp)) (Bd.join hc (y :: r) fun z hz => h z (List.mem_cons_of_mem _ hz))
theorem Bd.of_len {l : List Nat} (h : l.length ≤ n) : Bd sep cnt n l := fun m hm _ => Nat.le_trans List.countP_le_length (Nat.le_trans hm.length_le h)
theorem Bd.of_cnt {l : List Nat} (h : l.countP cnt ≤ n) : Bd sep cnt n l := fun m hm _ => Nat.le_trans (hm.sublist.countP_le) h
theorem cnt_join (p : Nat → Bool) (c : Nat) : ∀ ls : List (List Nat), (∀ r ∈ ls, r.countP p = 0) → (TL.joinL [c] ls).countP p ≤ ls.length
  | [], _ => Nat.zero_le _
  | [x], h => by
    rw [show TL.joinL [c] [x] = x from rfl, h x (by simp)]
    exact Nat.zero_le _
  | x :: y :: r, h => by
    have h2 := cnt_join p c (y :: r) fun z hz => h z (List.mem_cons_of_mem _ hz)
    have h3 : [c].countP p ≤ 1 := List.countP_le_length
    rw [joinL_cons2, List.countP_append, List.countP_append, h x (by simp), List.length_cons]
    omega
theorem cnt_zero {p : Nat → Bool} {l : List Nat} (h : ∀ c ∈ l, p c = false) : l.countP p = 0 := by
  rw [List.countP_eq_zero]
  intro c hc e
  rw [h c hc] at e
  cases e
end
theorem Asc.join {c : Nat} (hc : c < 128) : ∀ ls : List (List Nat), (∀ r ∈ ls, Asc r) → Asc (TL.joinL [c] ls)
  | [], _ => fun x h => by simp [TL.joinL] at h
  | [x], h => h x (by simp)
  | x :: y :: r, h => fun z hz => by
    rw [joinL_cons2] at hz
    simp only [List.mem_append] at hz
    rcases hz with hz | hz | hz
    · exact h x (by simp) z hz
    · rw [List.mem_singleton.mp hz]; exact hc
    · exact Asc.join hc (y :: r) (fun q hq => h q (List.mem_cons_of_mem _ hq)) z hz
theorem mem_join {c x : Nat} (hx : x ≠ c) : ∀ ls : List (List Nat), (∀ r ∈ ls, x ∉ r) → x ∉ TL.joinL [c] ls
  | [], _ => by simp [TL.joinL]
  | [y], h => h y (by simp)
  | y :: z :: r, h => by
    rw [joinL_cons2]
    simp only [List.mem_append, not_or]
    exact ⟨h y (by simp), by simpa using hx, mem_join hx (z :: r) fun q hq => h q (List.mem_cons_of_mem _ hq)⟩
/-- a word: no blanks, plain signs -/
structure Wd (n : Nat) (l : List Nat) : Prop where
  len : l.length ≤ n
  sg : ∀ c ∈ l, 33 ≤ c ∧ c < 128
theorem Wd.asc {n : Nat} {l : List Nat} (h : Wd n l) : Asc l := fun c hc => (h.sg c hc).2
theorem Wd.no32 {n : Nat} {l : List Nat} (h : Wd n l) : 32 ∉ l := fun hc => by have := (h.sg 32 hc).1; omega
theorem Wd.no10 {n : Nat} {l : List Nat} (h : Wd n l) : 10 ∉ l := fun hc => by have := (h.sg 10 hc).1; omega
/-- rows of words -/
theorem TB.rows {n1 n2 n3 : Nat} {rs : List (List (List Nat))} (h : ∀ ws ∈ rs, ws.length ≤ n2 ∧ ∀ w ∈ ws, Wd n1 w) (h3 : rs.length ≤ n3) : TB n1 n2 n3 (TL.joinL [10] (rs.map fun ws => TL.joinL [32] ws)) := by
  have row : ∀ r ∈ rs.map (fun ws => TL.joinL [32] ws), ∃ ws ∈ rs, TL.joinL [32] ws = r := fun r hr => by
    obtain ⟨ws, h1, h2⟩ := List.mem_map.mp hr
    exact ⟨ws, h1, h2⟩
  refine ⟨?_, ?_, ?_, ?_⟩
  · refine Asc.join (by decide) _ fun r hr => ?_
    obtain ⟨ws, hw, rfl⟩ := row r hr
    exact Asc.join (by decide) _ fun w hw2 => ((h ws hw).2 w hw2).asc
  · refine Bd.join (by decide) _ fun r hr => ?_
    obtain ⟨ws, hw, rfl⟩ := row r hr
    exact Bd.join (by decide) _ fun w hw2 => Bd.of_len ((h ws hw).2 w hw2).len
  · refine Bd.join (by decide) _ fun r hr => ?_
    obtain ⟨ws, hw, rfl⟩ := row r hr
    refine Bd.of_cnt (Nat.le_trans (cnt_join spC 32 ws fun w hw2 => cnt_zero fun c hc => ?_) (h ws hw).1)
    have := (((h ws hw).2 w hw2).sg c hc).1
    exact decide_eq_false (by omega)
  · refine Nat.le_trans (cnt_join nlC 10 _ fun r hr => ?_) (by rw [List.length_map]; exact h3)
    obtain ⟨ws, hw, rfl⟩ := row r hr
    refine cnt_zero fun c hc => decide_eq_false fun e => ?_
    subst e
    exact mem_join (by decide) ws (fun w hw2 => ((h ws hw).2 w hw2).no10) hc
theorem rows_cut {n1 : Nat} {rs : List (List (List Nat))} (hne : rs ≠ []) (h : ∀ ws ∈ rs, ws ≠ [] ∧ ∀ w ∈ ws, Wd n1 w) : (spl1 10 (TL.joinL [10] (rs.map fun ws => TL.joinL [32] ws))).map (spl1 32) = rs := by
  rw [join_spl 10 _ (by simpa using hne) fun r hr => ?_]
  · rw [List.map_map]
    have : ∀ ws ∈ rs, (spl1 32 ∘ fun ws => TL.joinL [32] ws) ws = ws := fun ws hw => join_spl 32 ws (h ws hw).1 fun w hw2 => ((h ws hw).2 w hw2).no32
    rw [List.map_congr_left this, List.map_id']
  · obtain ⟨ws, hw, rfl⟩ := List.mem_map.mp hr
    exact mem_join (by decide) ws fun w hw2 => ((h ws hw).2 w hw2).no10
theorem Wd.num {n k : Nat} (hk : 0 < k) (h : n < 10 ^ k) : Wd k (TL.numL n) := ⟨TL.numL_len hk h, fun c hc => by have := TL.numL_digits n c hc; omega⟩
theorem key_wd {n i : Nat} {k : Key} (h : okPlace n i k) (hn : n ≤ 40) : Wd 8 (keyT k) := by
  cases k with
  | inl p =>
    obtain ⟨h1, h2⟩ := h
    have := Wd.num (n := p.toNat) (k := 2) (by decide) (by omega)
    exact ⟨Nat.le_trans this.len (by decide), this.sg⟩
  | inr z =>
    obtain ⟨h1, h2, h3⟩ := h
    refine ⟨h2, fun c hc => ?_⟩
    have := h3 c hc
    omega
theorem key_plc {n i : Nat} {k : Key} (h : okPlace n i k) (hn : n ≤ 40) : plcW (keyT k) = some k := by
  cases k with
  | inl p =>
    obtain ⟨h1, h2⟩ := h
    have hl : letB (TL.numL p.toNat) = false := by
      unfold letB
      obtain ⟨c, r, e⟩ := List.exists_cons_of_ne_nil (TL.numL_ne p.toNat)
      have hc := TL.numL_digits p.toNat c (by rw [e]; exact List.mem_cons_self ..)
      rw [e, List.all_cons]
      have : letC c = false := by
        unfold letC
        rw [Bool.and_eq_false_iff]
        exact .inl (decide_eq_false (by omega))
      rw [this]
      simp
    have hlen := (Wd.num (n := p.toNat) (k := 2) (by decide) (by omega)).len
    unfold plcW keyT
    rw [if_neg (by rw [hl]; decide), if_pos hlen, numW_num]
    show some (Sum.inl ((p.toNat : Nat) : Int)) = _
    rw [Int.toNat_of_nonneg (by omega)]
  | inr z =>
    obtain ⟨h1, h2, h3⟩ := h
    show plcW z.cps.toList = _
    unfold plcW
    refine (if_pos ?_).trans (by rw [S_tl])
    unfold letB
    rw [Bool.and_eq_true, Bool.not_eq_true', decide_eq_false_iff_not]
    refine ⟨fun e => ?_, List.all_eq_true.mpr fun c hc => ?_⟩
    · have hl : z.length = z.cps.toList.length := by simp [Str.length]
      rw [hl, e] at h1
      exact absurd h1 (by decide)
    · have := h3 c hc
      unfold letC
      rw [Bool.and_eq_true, decide_eq_true_iff, decide_eq_true_iff]
      exact this
theorem netT_rows (net : List (List Key)) : netT net = TL.joinL [10] ((net.map fun seats => seats.map keyT).map fun ws => TL.joinL [32] ws) := by
  unfold netT
  rw [List.map_map]
  rfl
theorem net_words {net : List (List Key)} (ok : NetOk net) : ∀ ws ∈ net.map (fun seats => seats.map keyT), (ws ≠ [] ∧ ws.length ≤ 8) ∧ ∀ w ∈ ws, Wd 8 w := by
  intro ws hws
  obtain ⟨seats, hs, rfl⟩ := List.mem_map.mp hws
  obtain ⟨i, hi⟩ := List.getElem?_of_mem hs
  have hsz := ok.size i seats hi
  refine ⟨⟨fun e => ?_, by rw [List.length_map]; exact hsz.2⟩, fun w hw => ?_⟩
  · have := congrArg List.length e
    rw [List.length_map, List.length_nil] at this
    omega
  · obtain ⟨k, hk, rfl⟩ := List.mem_map.mp hw
    exact key_wd (ok.plc i seats k hi hk) ok.le
theorem TB.net {net : List (List Key)} (ok : NetOk net) (h : net.length ≤ 6) : TB 8 8 6 (netT net) := by
  rw [netT_rows]
  exact TB.rows (fun ws hw => ⟨(net_words ok ws hw).1.2, (net_words ok ws hw).2⟩) (by rw [List.length_map]; exact h)
theorem netT_back {net : List (List Key)} (ok : NetOk net) : noneAt (netT net) = none ∧ netN (netT net) = net := by
  have hp := ok.pos
  have e : rowsN (netT net) = net.map fun seats => seats.map some := by
    have h := rows_cut (n1 := 8) (rs := net.map fun seats => seats.map keyT) (fun e => by have := congrArg List.length e; rw [List.length_map, List.length_nil] at this; omega) fun ws hw => ⟨(net_words ok ws hw).1.1, (net_words ok ws hw).2⟩
    rw [← netT_rows] at h
    have e2 : rowsN (netT net) = ((spl1 10 (netT net)).map (spl1 32)).map fun ws => ws.map plcW := by
      unfold rowsN
      rw [List.map_map]
      rfl
    rw [e2, h, List.map_map]
    refine List.map_congr_left fun seats hs => ?_
    obtain ⟨i, hi⟩ := List.getElem?_of_mem hs
    show (seats.map keyT).map plcW = _
    rw [List.map_map]
    exact List.map_congr_left fun k hk => key_plc (ok.plc i seats k hi hk) ok.le
  constructor
  · refine findIdx_no fun j y hy => ?_
    rw [e, List.getElem?_map] at hy
    cases h : net[j]? with
    | none => rw [h] at hy; cases hy
    | some seats =>
      rw [h] at hy
      rw [← Option.some.inj hy]
      unfold noneB
      rw [List.any_map, List.any_eq_false]
      intro k _
      simp
  · unfold netN
    rw [e, List.map_map]
    refine (List.map_congr_left fun seats _ => ?_).trans (List.map_id' net)
    show (seats.map some).filterMap id = seats
    simp
theorem numT_wd {p : Int} (h : p < 128 ^ 10) : Wd 22 (numT p) := Wd.num (by decide) (by
  have e : (128 : Int) ^ 10 = 1180591620717411303424 := by decide
  have e2 : (10 : Nat) ^ 22 = 10000000000000000000000 := by decide
  rw [e] at h
  rw [e2]
  omega)
theorem next_wd : Wd 22 nextL := ⟨by decide, by decide⟩
theorem queue_wd : Wd 22 queueL := ⟨by decide, by decide⟩
theorem st_words {net : List (List Key)} {n : Int} {qs : List (List Int)} (ok : NetOk net) (so : StOk net n qs) (hn : n < 128 ^ 10) : ∀ ws ∈ stW n qs, (ws ≠ [] ∧ ws.length ≤ 8) ∧ ∀ w ∈ ws, Wd 22 w := by
  intro ws hws
  rcases List.mem_cons.mp hws with rfl | hws
  · refine ⟨⟨by simp, by simp⟩, fun w hw => ?_⟩
    simp only [List.mem_cons, List.not_mem_nil, or_false] at hw
    rcases hw with rfl | rfl
    · exact next_wd
    · exact numT_wd hn
  · obtain ⟨q, hq, rfl⟩ := List.mem_map.mp hws
    obtain ⟨i, hi⟩ := List.getElem?_of_mem hq
    have hil : i < net.length := by rw [← so.len]; exact (List.getElem?_eq_some_iff.mp hi).1
    have h1 := so.short i q _ hi (getDs (d := []) hil)
    have h2 := (ok.size i _ (getDs (d := []) hil)).2
    refine ⟨⟨by simp [quW], by simp [quW]; omega⟩, fun w hw => ?_⟩
    rcases List.mem_cons.mp hw with rfl | hw
    · exact queue_wd
    · obtain ⟨p, hp, rfl⟩ := List.mem_map.mp hw
      have := so.rng p (List.mem_flatten.mpr ⟨q, hq, hp⟩)
      exact numT_wd (by omega)
theorem TB.st {net : List (List Key)} {n : Int} {qs : List (List Int)} (ok : NetOk net) (so : StOk net n qs) (hn : n < 128 ^ 10) (h : net.length ≤ 6) : TB 22 8 7 (stT n qs) :=
  TB.rows (fun ws hw => ⟨(st_words ok so hn ws hw).1.2, (st_words ok so hn ws hw).2⟩) (by unfold stW; rw [List.length_cons, List.length_map, so.len]; omega)
theorem nums_back {kw : Str} {hd : List Nat} {ps : List Int} {r : List Nat} (hk : S hd = kw) (h0 : ∀ p ∈ ps, 0 ≤ p) (e : spl1 32 r = hd :: ps.map numT) : numsW kw r = some ps := by
  have e1 : headW r = hd := by unfold headW; rw [e]; rfl
  have e2 : numsL r = ps.map some := by
    unfold numsL
    rw [e]
    show (ps.map numT).map numW = _
    rw [List.map_map]
    refine List.map_congr_left fun p hp => ?_
    show numW (TL.numL p.toNat) = some p
    rw [numW_num, Int.toNat_of_nonneg (h0 p hp)]
  unfold numsW
  rw [e1, e2, if_pos ⟨hk, by unfold nonesI; rw [List.any_map, List.any_eq_false]; intro x _; simp⟩]
  simp
theorem stT_back {net : List (List Key)} {n : Int} {qs : List (List Int)} (ok : NetOk net) (so : StOk net n qs) (hn : n < 128 ^ 10) : stR net.length (stT n qs) = .ok (n, qs) := by
  have h1 := so.one
  have hw := st_words ok so hn
  have hc := rows_cut (n1 := 22) (rs := stW n qs) (by simp [stW]) fun ws h => ⟨(hw ws h).1.1, (hw ws h).2⟩
  have hc : (spl1 10 (stT n qs)).map (spl1 32) = [nextL, numT n] :: qs.map quW := hc
  have hlen : (spl1 10 (stT n qs)).length = qs.length + 1 := by
    have := congrArg List.length hc
    rw [List.length_map, List.length_cons, List.length_map] at this
    exact this
  have row : ∀ (i : Nat) (ws : List (List Nat)), ([nextL, numT n] :: qs.map quW)[i]? = some ws → spl1 32 ((spl1 10 (stT n qs)).getD i []) = ws := fun i ws h => by
    rw [← hc, List.getElem?_map] at h
    rw [List.getD_eq_getElem?_getD]
    cases e : (spl1 10 (stT n qs))[i]? with
    | none => rw [e] at h; cases h
    | some r => rw [e] at h; exact Option.some.inj h
  refine stR_ok ?_ (fun i hi => ?_) so.len (by rw [hlen, so.len]; exact Nat.le_refl _)
  · unfold rwAt kwAt
    rw [if_pos rfl]
    exact nums_back (ps := [n]) z_next.symm (fun p hp => by rw [List.mem_singleton.mp hp]; omega) (row 0 _ rfl)
  · unfold rwAt kwAt
    rw [if_neg (by omega)]
    have hi2 : i < qs.length := by rw [so.len]; exact hi
    have eq : qs[i]? = some (qs.getD i []) := getDs hi2
    generalize qs.getD i [] = q at eq
    refine nums_back (ps := q) z_queue.symm (fun p hp => ?_) (row (i + 1) (quW q) (by rw [List.getElem?_cons_succ, List.getElem?_map, eq]; rfl))
    have := so.rng p (List.mem_flatten.mpr ⟨q, List.mem_of_getElem? eq, hp⟩)
    omega
end Fb

namespace Fb
open PySem PySem.Spec PyProof.Rows L2 PySem.HandSPX SX
/-! ### a network, a state written as text -/
theorem i_joinS {K : PySem.W.Frag} {H : Hp} {D : Addr} {z : Str} {sep : List Nat} {ls : List (List Nat)} {N : Str → List Str → Prop} (n : Nat) (hz : z = S sep) (h : SqL K H D ((ls.map S).map V.str)) (hn : ∀ r ∈ ls, r.length ≤ n) (hb : ls.length * (n + sep.length) ≤ 16777216) (q : N (S sep) (ls.map S)) :
    ∃ a p, ∃ ys : List Str, V.str z = .str a ∧ [V.ref D] = [.ref p] ∧ (SqL K H p (ys.map V.str) ∨ SqT K H p (ys.map V.str)) ∧ (ys.map (·.length)).sum + ys.length * a.length ≤ 16777216 ∧ N a ys := by
  refine ⟨z, D, ls.map S, rfl, rfl, .inl h, ?_, by rw [hz]; exact q⟩
  have hs : ∀ (ls : List (List Nat)), (∀ r ∈ ls, r.length ≤ n) → ((ls.map S).map (·.length)).sum ≤ ls.length * n := by
    intro ls
    induction ls with
    | nil => intro _; exact Nat.zero_le _
    | cons x r ih =>
      intro h
      have h1 := h x (List.mem_cons_self ..)
      have h2 := ih fun y hy => h y (List.mem_cons_of_mem _ hy)
      have h3 : (S x).length = x.length := S_len x
      rw [List.map_cons, List.map_cons, List.sum_cons, List.length_cons, Nat.succ_mul, h3]
      omega
  have h1 := hs ls hn
  have h2 : z.length = sep.length := by rw [hz, S_len]
  rw [Nat.mul_add] at hb
  rw [List.length_map, h2]
  omega
def numK : Key → Prop
  | .inl p => 0 ≤ p ∧ p.natAbs.log2 < 1920
  | .inr _ => True
theorem call_strK {X : Cx} : CallR X (.type "str") (fun xs H Q => ∃ k : Key, xs = [kV k] ∧ numK k ∧ Q (.str (S (keyT k))) H) := by
  intro pins s σ H xs us Q I r h
  obtain ⟨k, rfl, hk, q⟩ := h
  cases k with
  | inl p =>
    refine call_str_int pins s σ H _ us Q I r ⟨p, rfl, hk.2, ?_⟩
    have e : Str.ofString (toString p) = S (TL.numL p.toNat) := str_num hk.1
    rw [e]
    exact q
  | inr z =>
    have e : S (keyT (.inr z)) = z := S_tl z
    rw [e] at q
    obtain ⟨u, rfl, t, rfl⟩ := vals1 r
    exact PySem.P.str_of_str ⟨.str z, H, I, ⟨t, rfl⟩, q⟩
theorem log2_small {p : Int} {k : Nat} (h0 : 0 ≤ p) (h : p < 2 ^ (k + 1)) (hk : k < 1920) : p.natAbs.log2 < 1920 := by
  by_cases hp : p.natAbs = 0
  · rw [hp]; decide
  · have : p.natAbs.log2 < k + 1 := (Nat.log2_lt hp).mpr (by
      have e : ((2 ^ (k + 1) : Nat) : Int) = (2 : Int) ^ (k + 1) := by simp
      omega)
    omega
theorem numK_plc {n i : Nat} {k : Key} (h : okPlace n i k) (hn : n ≤ 40) : numK k := by
  cases k with
  | inl p =>
    obtain ⟨h1, h2⟩ := h
    have e : (2 : Int) ^ (70 + 1) = 2361183241434822606848 := by decide
    exact ⟨by omega, log2_small (k := 70) (by omega) (by omega) (by decide)⟩
  | inr z => trivial
theorem num_log {p : Int} (h0 : 0 ≤ p) (h : p < 128 ^ 10) : p.natAbs.log2 < 1920 := log2_small (k := 70) h0 (by
  have e : (128 : Int) ^ 10 = 1180591620717411303424 := by decide
  have : (2 : Int) ^ (70 + 1) = 2361183241434822606848 := by decide
  rw [e] at h
  omega) (by decide)
def spFNet (K : PySem.W.Frag) (C0 : Addr) : Sp := fun vs H Q E => ∃ (nv : V) (net : List (List Key)), vs = [nv] ∧ Dt K H nv (netD net) ∧ (∀ (i : Nat) (seats : List Key), net[i]? = some seats → (∀ k ∈ seats, keyZ k) ∧ seats.length ≤ 100000) ∧ net.length ≤ 1000 ∧
  ((NetOk net ∧ ∀ H', Same H H' → Q (.str (S (netT net))) H') ∨ ∃ st se, badNet net = some (st, se) ∧ ∀ d H1, Same H H1 → H1 d = none → E (.ref C0) (some d) (upd H1 d (.xd [("seat", .int se), ("station", .int st)])))
def spFSt (K : PySem.W.Frag) (C1 : Addr) : Sp := fun vs H Q E => ∃ (nv sv : V) (net : List (List Key)) (n : Int) (qs : List (List Int)) (B : Nat), vs = [nv, sv] ∧ Dt K H nv (netD net) ∧ Dt K H sv (stD n qs) ∧ NetOk net ∧ SmQ B qs ∧ B * qs.length ≤ 1000 ∧
  ((StOk net n qs ∧ n < 128 ^ 10 ∧ ∀ H', Same H H' → Q (.str (S (stT n qs))) H') ∨ (¬ StOk net n qs ∧ ∀ H', Same H H' → E (.ref C1) none H'))
theorem row_len8 {n1 : Nat} {ws : List (List Nat)} (h : ∀ w ∈ ws, Wd n1 w) (hl : ws.length ≤ 8) : (TL.joinL [32] ws).length ≤ 8 * (n1 + 1) := by
  have h1 := joinL_len 32 ws n1 fun w hw => (h w hw).len
  have h2 := Nat.mul_le_mul_right (n1 + 1) hl
  omega
section
variable {P : Program} {w : World} {K : PySem.W.Frag} {mg : Str → Option Value} {base : Heap}
theorem ok_format_network (A : All K mg) {C0 : Addr} (c_validate_network : Cal P w K mg base 4 "validate_network" (spVNetX K C0)) : Cal P w K mg base 5 "format_network" (spFNet K C0) := by
  refine cal_ofX A.d_format_network sc_format_network (fun _ _ _ _ _ _ us hl => match us, hl with | [_], _ => rfl) (fun vs H Q E h => ?_) (fun f cdv A' outer s H0 vs Q E hr h => ?_)
  · obtain ⟨nv, net, rfl, _⟩ := h
    rfl
  · obtain ⟨nv, net, rfl, hn, hz, hl, k⟩ := h
    refine ⟨_, (pss_cons (ps_expr (pcX c_validate_network hr (by decide) (takes_of rfl rfl rfl rfl) (pa_cons (pv 0) pa_nil)))
 (pss_one (ps_ret (k_bm (K := K) rfl PySem.F.plainAttrs_str PySem.F.slot_str_join PySem.F.type_str_join (k_join (K := K) rfl) pe_str (pa_cons (pe_lc rfl sc_format_network.nd (k_pt (K := K) rfl (pv 0)) (blkOk_by (own := [("seats", 1)]) (N := ["network", "seats", "place"]) (sc := defScope s_format_network) (by decide +kernel)) (fun _ _ _ _ _ => (pg_name (i := 1) sc_format_network.nd rfl (Or.inl rfl))) (fun _ _ _ _ _ => pts_nil) (fun _ _ _ _ _ => (k_bm (K := K) rfl PySem.F.plainAttrs_str PySem.F.slot_str_join PySem.F.type_str_join (k_join (K := K) rfl) pe_str (pa_cons (pe_lc rfl sc_format_network.nd (k_pt (K := K) rfl (pv 1)) (blkOk_by (own := [("place", 2)]) (N := ["network", "seats", "place"]) (by kernel_rfl)) (fun _ _ _ _ _ => (pg_name (i := 2) sc_format_network.nd rfl (Or.inl rfl))) (fun _ _ _ _ _ => pts_nil) (fun _ _ _ _ _ => (pe_callTy (T := "str") call_strK (by rfl) A.b_str (by decide +kernel) (pa_cons (pv 2) pa_nil)))) pa_nil)))) pa_nil))))), ?_⟩
    walk_at "begin"
    rcases k with ⟨ok, k⟩ | ⟨st, se, hbd, k⟩
    · have h40 := ok.le
      have hw := net_words ok
      refine ⟨nv, net, rfl, hn, hz, hl, fun _ H1 e1 => ?_, fun st se hb => by rw [bad_ok ok] at hb; cases hb⟩
      have st := (Stt.init H0).ext e1
      obtain ⟨na, xs, rfl, hna, hxs⟩ := (Dt.keep (TK.same e1) _ _ hn).tup_inv
      have hxl : xs.length = net.length := by rw [hxs.len, List.length_map]
      have st := (st.know (φ := fun H => TupAt K H na xs) hna Pers.tup).know (φ := fun H => DtAll K H xs (net.map seatsD)) hxs Pers.all
      walk_at "go"
      refine i_tyX ?_
      walk_at "go"
      refine ⟨na, rfl, ⟨_, (st.pers 0 rfl : TupAt K _ na xs).sq⟩, LcIt.map (walk_tup (xs := xs)) (((net.map rowT).map S).map V.str) (by simp [hxl]) (sz_lt (by omega)) (fun H2 e2 => ((st.ext e2).pers 0 rfl : TupAt K _ na xs).sq) ?_ ?_⟩
      · rintro i v y H2 H3 N hi hy e2 ⟨rfl, hx⟩ hN
        have st := st.ext e2
        obtain ⟨seats, sa, hse, rfl, hsa⟩ := net_at (st.pers 1 rfl : DtAll K _ xs (net.map seatsD)) hx
        obtain rfl : V.str (S (rowT seats)) = y := by
          rw [List.getElem?_map, List.getElem?_map, List.getElem?_map, hse] at hy
          exact Option.some.inj hy
        have st := st.know (φ := fun H => TupAt K H sa (seats.map kV)) hsa Pers.tup
        have hsz := ok.size i seats hse
        have hwr := hw _ (List.mem_map.mpr ⟨seats, List.mem_of_getElem? hse, rfl⟩)
        walk_at "go"
        refine ⟨rfl, ?_⟩
        walk_at "go"
        refine i_tyX ?_
        walk_at "go"
        refine ⟨sa, rfl, ⟨_, (st.pers 2 rfl : TupAt K _ sa _).sq⟩, LcIt.map (walk_tup (xs := seats.map kV)) (((seats.map keyT).map S).map V.str) (by simp) (sz_lt (by rw [List.length_map]; omega)) (fun H4 e4 => ((st.ext e4).pers 2 rfl : TupAt K _ sa _).sq) ?_ ?_⟩
        · rintro q v y H4 H5 N2 hq hy e4 ⟨rfl, hx⟩ hN2
          rw [List.getElem?_map] at hx
          cases hk : seats[q]? with
          | none => rw [hk] at hx; cases hx
          | some ky =>
            rw [hk] at hx
            obtain rfl := Option.some.inj hx
            obtain rfl : V.str (S (keyT ky)) = y := by
              rw [List.getElem?_map, List.getElem?_map, List.getElem?_map, hk] at hy
              exact Option.some.inj hy
            walk_at "go"
            refine ⟨rfl, ?_⟩
            walk_at "go"
            exact ⟨ky, rfl, numK_plc (ok.plc i seats ky hse (List.mem_of_getElem? hk)) ok.le, hN2 _ (Same.refl _)⟩
        · intro D H4 nD e4 hD
          walk_at "go"
          refine i_joinS 8 z_sp (SqL.of hD) (fun r hr => (hwr.2 r hr).len) ?_ ?_
          · have := hwr.1.2
            have := Nat.mul_le_mul_right (8 + [32].length) this
            show _ * (8 + 1) ≤ _
            simp only [List.length_cons, List.length_nil] at this
            omega
          · rw [SX.join_S]
            exact hN _ e4
      · intro D H4 nD e4 hD
        have st := st.ext e4
        walk_at "go"
        refine i_joinS 72 z_nl (SqL.of hD) (fun r hr => ?_) ?_ ?_
        · obtain ⟨seats, hs, rfl⟩ := List.mem_map.mp hr
          have hwr := hw _ (List.mem_map.mpr ⟨seats, hs, rfl⟩)
          exact row_len8 hwr.2 hwr.1.2
        · rw [List.length_map]
          have := Nat.mul_le_mul_right (72 + [10].length) h40
          simp only [List.length_cons, List.length_nil] at this ⊢
          omega
        · rw [SX.join_S]
          exact k _ st.same
    · refine ⟨nv, net, rfl, hn, hz, hl, fun hb => (by rw [hbd] at hb; cases hb), fun st' se' hb d H2 e2 nd => ?_⟩
      obtain ⟨rfl, rfl⟩ : st = st' ∧ se = se' := by
        rw [hbd] at hb
        cases hb
        exact ⟨rfl, rfl⟩
      exact k d H2 e2 nd
theorem ok_format_state (A : All K mg) {C0 C1 : Addr} (c_validate_network : Cal P w K mg base 4 "validate_network" (spVNetX K C0)) (c_validate_state : Cal P w K mg base 4 "validate_state" (spVStG K C1)) : Cal P w K mg base 5 "format_state" (spFSt K C1) := by
  obtain ⟨_, h_NEXT⟩ := A.c_NEXT
  obtain ⟨_, h_QUEUE⟩ := A.c_QUEUE
  refine cal_ofX A.d_format_state sc_format_state (fun _ _ _ _ _ _ us hl => match us, hl with | [_, _], _ => rfl) (fun vs H Q E h => ?_) (fun f cdv A' outer s H0 vs Q E hr h => ?_)
  · obtain ⟨nv, sv, net, n, qs, B, rfl, _⟩ := h
    rfl
  · obtain ⟨nv, sv, net, n, qs, B, rfl, hn, hs, ok, sm, hB, k⟩ := h
    have h40 := ok.le
    refine ⟨_, (pss_cons (ps_expr (pcX c_validate_network hr (by decide) (takes_of rfl rfl rfl rfl) (pa_cons (pv 0) pa_nil)))
 (pss_cons (ps_expr (pcX c_validate_state hr (by decide) (takes_of rfl rfl rfl rfl) (pa_cons (pv 0) (pa_cons (pv 1) pa_nil))))
 (pss_cons (ps_set (i := 2) sc_format_state.nd rfl (Or.inl rfl) (pe_lst (pa_cons (pe_op op_add_str (pe_op op_add_str (pe_glob (v := .str "next") rfl h_NEXT ⟨_, rfl⟩) pe_str) (pe_callTy (T := "str") call_str_int (by rfl) A.b_str (by decide +kernel) (pa_cons (pe_ix (k_ixT (K := K) rfl) (pv 1) pe_int (fun _ _ => rfl)) pa_nil))) pa_nil)))
 (pss_cons (ps_for (passes_of rfl) rfl (k_pt (K := K) rfl (pe_ix (k_ixT (K := K) rfl) (pv 1) pe_int (fun _ _ => rfl))) (pg_name (i := 3) sc_format_state.nd rfl (Or.inl rfl))
 (pss_one (ps_expr (pe_bm PySem.F.plainAttrs_list PySem.F.slot_list_append PySem.F.type_list_append mt_append (pv 2) (pa_cons (k_bm (K := K) rfl PySem.F.plainAttrs_str PySem.F.slot_str_join PySem.F.type_str_join (k_join (K := K) rfl) pe_str (pa_cons (pe_op op_cat (pe_lst (pa_cons (pe_glob (v := .str "queue") rfl h_QUEUE ⟨_, rfl⟩) pa_nil)) (pe_lc rfl sc_format_state.nd (k_pt (K := K) rfl (pv 3)) (blkOk_by (own := [("passenger", 4)]) (N := ["network", "state", "lines", "queue", "passenger"]) (sc := defScope s_format_state) (by decide +kernel)) (fun _ _ _ _ _ => (pg_name (i := 4) sc_format_state.nd rfl (Or.inl rfl))) (fun _ _ _ _ _ => pts_nil) (fun _ _ _ _ _ => (pe_callTy (T := "str") call_str_int (by rfl) A.b_str (by decide +kernel) (pa_cons (pv 4) pa_nil))))) pa_nil)) pa_nil)))))
 (pss_one (ps_ret (k_bm (K := K) rfl PySem.F.plainAttrs_str PySem.F.slot_str_join PySem.F.type_str_join (k_join (K := K) rfl) pe_str (pa_cons (pv 2) pa_nil)))))))), ?_⟩
    walk_at "begin"
    refine ⟨nv, net, rfl, hn, net_wild ok, by omega, fun _ H1 e1 => ?_, fun st se hb => by rw [bad_ok ok] at hb; cases hb⟩
    have hn1 := Dt.keep (TK.same e1) _ _ hn
    have hs1 := Dt.keep (TK.same e1) _ _ hs
    walk_at "go"
    rcases k with ⟨so, hn10, k⟩ | ⟨nso, k⟩
    · refine ⟨nv, sv, net, n, qs, B, rfl, hn1, hs1, ok, sm, hB, fun so H2 e2 => ?_, fun nso => absurd so nso⟩
      have hw := st_words ok so hn10
      have h1n := so.one
      have hs2 := Dt.keep (TK.same e2) _ _ hs1
      have st := (Stt.init H0).ext (e1.trans e2)
      obtain ⟨a, qa, xs, rfl, ha, hq, hx⟩ := st_inv hs2
      have st := ((st.know (φ := fun H => TupAt K H a [.int n, .ref qa]) ha Pers.tup).know (φ := fun H => TupAt K H qa xs) hq Pers.tup).know (φ := fun H => DtAll K H xs (qs.map intsD)) hx Pers.all
      have hxl : xs.length = qs.length := by rw [hx.len, List.length_map]
      have hql := so.len
      have hnl : (numT n).length ≤ 22 := (numT_wd hn10).len
      walk_at "go"
      refine ⟨"next", " ", rfl, rfl, by decide +kernel, ?_⟩
      walk_at "go"
      refine i_ixT (xs := [.int n, .ref qa]) (v := .int n) (st.pers 0 rfl : TupAt K _ a _).sq rfl ?_
      walk_at "go"
      refine ⟨n, rfl, num_log (by omega) hn10, ?_⟩
      have en : Str.ofString (toString n) = S (numT n) := str_num (by omega)
      rw [en]
      have e0 : ("next" : Str) ++ " " = S (nextL ++ [32]) := by rw [z_next, z_sp, S_cat]
      rw [e0]
      refine ⟨S (nextL ++ [32]), S (numT n), rfl, rfl, sz_of (by rw [S_len, S_len, List.length_append]; simp only [nextL, List.length_cons, List.length_nil]; omega), ?_⟩
      rw [S_cat]
      have e1 : nextL ++ [32] ++ numT n = TL.joinL [32] [nextL, numT n] := by rw [joinL_cons2, List.append_assoc]; rfl
      rw [e1]
      refine st_newL st (by simp) fun sl nsl st => ?_
      walk_at "go"
      refine i_ixT (xs := [.int n, .ref qa]) (v := .ref qa) (st.pers 0 rfl : TupAt K _ a _).sq rfl ?_
      have hst : (stW n qs).map (fun ws => TL.joinL [32] ws) = TL.joinL [32] [nextL, numT n] :: (qs.map quW).map (fun ws => TL.joinL [32] ws) := rfl
      generalize TL.joinL [32] [nextL, numT n] = l0 at st hst
      refine ⟨qa, rfl, ⟨_, (st.pers 1 rfl : TupAt K _ qa _).sq⟩, ForIt.go (walk_tup (xs := xs)) (fun j σ H => ∃ s3 s4, σ = [some nv, some (.ref a), some (.ref sl), s3, s4] ∧ Stt [] H0 [(sl, .lst (((l0 :: ((qs.take j).map quW).map (fun ws => TL.joinL [32] ws)).map S).map V.str))] [fun H => TupAt K H a [.int n, .ref qa], fun H => TupAt K H qa xs, fun H => DtAll K H xs (qs.map intsD)] H) ⟨_, _, rfl, st⟩ (fun j σ H _ p => ?_) ?_ ?_⟩
      · obtain ⟨_, _, _, st⟩ := p
        exact (st.pers 1 rfl : TupAt K _ qa _).sq
      · clear st
        rintro j v σ H H' hj ⟨s3, s4, rfl, st⟩ ⟨rfl, hx1⟩
        obtain ⟨q, q1, hqj, rfl, hq1⟩ := qs_at (st.pers 2 rfl : DtAll K _ xs (qs.map intsD)) hx1
        have hqm := List.mem_of_getElem? hqj
        have hwr := hw (quW q) (List.mem_cons_of_mem _ (List.mem_map.mpr ⟨q, hqm, rfl⟩))
        have hq7 : q.length ≤ 7 := by have := hwr.1.2; simp only [quW, List.length_cons, List.length_map] at this; omega
        have st := st.know (φ := fun H => TupAt K H q1 (iV q)) hq1 Pers.tup
        walk_at "go"
        refine i_tyL (st.sqL 0 rfl) ?_
        walk_at "go"
        refine i_tyX ?_
        walk_at "go"
        refine st_newL st (by simp) fun kl nkl st => ?_
        walk_at "go"
        refine ⟨q1, rfl, ⟨_, (st.pers 3 rfl : TupAt K _ q1 _).sq⟩, LcIt.map (walk_tup (xs := iV q)) (((q.map numT).map S).map V.str) (by simp [iV]) (sz_lt (by rw [iV_len]; omega)) (fun H4 e4 => ((st.ext e4).pers 3 rfl : TupAt K _ q1 _).sq) ?_ ?_⟩
        · rintro m v y H4 H5 N2 hm hy e4 ⟨rfl, hx⟩ hN2
          have hx : (q.map V.int)[m]? = some v := hx
          rw [List.getElem?_map] at hx
          cases hk : q[m]? with
          | none => rw [hk] at hx; cases hx
          | some p =>
            rw [hk] at hx
            obtain rfl := Option.some.inj hx
            obtain rfl : V.str (S (numT p)) = y := by
              rw [List.getElem?_map, List.getElem?_map, List.getElem?_map, hk] at hy
              exact Option.some.inj hy
            have hpr := so.rng p (List.mem_flatten.mpr ⟨q, hqm, List.mem_of_getElem? hk⟩)
            walk_at "go"
            refine ⟨rfl, ?_⟩
            walk_at "go"
            refine ⟨p, rfl, num_log (by omega) (by omega), ?_⟩
            have en : Str.ofString (toString p) = S (numT p) := str_num (by omega)
            rw [en]
            exact hN2 _ (Same.refl _)
        · intro D H4 nD e4 hD
          have st := st.fresh nD e4 hD trivial
          refine st_cat st (st.at 1 rfl) (st.at 2 rfl) (by simp; omega) fun p H5 np e5 st => ?_
          walk_at "go"
          have ew : [V.str "queue"] ++ ((q.map numT).map S).map V.str = ((quW q).map S).map V.str := by rw [z_queue]; rfl
          rw [ew] at st
          refine i_joinS 22 z_sp (st.sqL 3 rfl) (fun r hr => (hwr.2 r hr).len) ?_ ?_
          · have := Nat.mul_le_mul_right (22 + [32].length) hwr.1.2
            simp only [List.length_cons, List.length_nil] at this ⊢
            omega
          · rw [SX.join_S]
            walk_at "go"
            refine st_append st 0 rfl (by simp; omega) fun H6 st => ?_
            have st := (st.picks [0] (by decide) (L' := [(sl, .lst (((l0 :: ((qs.take j).map quW).map (fun ws => TL.joinL [32] ws)).map S).map V.str ++ [V.str (S (TL.joinL [32] (quW q)))]))]) rfl).only (P' := [fun H => TupAt K H a [.int n, .ref qa], fun H => TupAt K H qa xs, fun H => DtAll K H xs (qs.map intsD)]) [0, 1, 2] rfl
            refine ⟨_, _, rfl, ?_⟩
            rw [List.take_succ, hqj]
            simp only [Option.toList_some, List.map_append, List.map_cons, List.map_nil] at st ⊢
            exact st
      · clear st
        rintro σ H ⟨s3, s4, rfl, st⟩
        rw [hxl, List.take_length, ← hst] at st
        walk_at "go"
        refine i_tyX ?_
        walk_at "go"
        refine i_joinS 184 z_nl (st.sqL 0 rfl) (fun r hr => ?_) ?_ ?_
        · obtain ⟨ws, hws, rfl⟩ := List.mem_map.mp hr
          exact row_len8 (hw ws hws).2 (hw ws hws).1.2
        · have : ((stW n qs).map fun ws => TL.joinL [32] ws).length ≤ 41 := by simp [stW]; omega
          have := Nat.mul_le_mul_right (184 + [10].length) this
          simp only [List.length_cons, List.length_nil] at this ⊢
          omega
        · rw [SX.join_S]
          exact k _ st.same
    · exact ⟨nv, sv, net, n, qs, B, rfl, hn1, hs1, ok, sm, hB, fun so => absurd so nso, fun _ H2 e2 => k _ (e1.trans e2)⟩
end
end Fb

namespace Fb
open PySem PySem.Spec PyProof.Rows L2 PySem.HandSPX SX
/-! ### a text that is changed -/
theorem sl_to {r : V → Option Int → Option Int → Hp → VK → Prop} {te : TE} {th : TE} {σ : L2.St} {H : Hp} {Q : VK} (h : te σ H fun x H1 => th σ H1 fun y H2 => ∃ i : Int, y = .int i ∧ r x none (some i) H2 Q) : tSl r te tNoPart (tPart th) σ H Q := h
theorem cut_toV {xs : List V} {k : Nat} (h : k ≤ xs.length) : cutV xs none (some (k : Int)) = xs.take k := by
  unfold cutV
  rw [HT.sIx_nat, Nat.min_eq_left h]
  show (xs.drop 0).take (k - 0) = _
  rw [List.drop_zero, Nat.sub_zero]
theorem cut_frV {xs : List V} {k : Nat} (h : k ≤ xs.length) : cutV xs (some (k : Int)) none = xs.drop k := by
  unfold cutV
  rw [HT.sIx_nat, Nat.min_eq_left h]
  show (xs.drop k).take (xs.length - k) = _
  exact List.take_of_length_le (by rw [List.length_drop]; exact Nat.le_refl _)
theorem cutS_to {l : List Nat} {k : Nat} : cutS (S l) none (some (k : Int)) = S (l.take k) := by
  rw [C8.cutS_slice, SX.slice_to (by omega), Int.toNat_natCast]
theorem cutS_fr {l : List Nat} {k : Nat} : cutS (S l) (some (k : Int)) none = S (l.drop k) := by
  rw [C8.cutS_slice, SX.slice_from (by omega), Int.toNat_natCast]
theorem i_slT {l : List Nat} {j : Int} {H : Hp} {Q : VK} (c : Nat) (hj : j = (c : Int)) (hl : l.length ≤ 100000) (q : Q (.str (S (l.take c))) H) : ∃ i : Int, V.int j = .int i ∧ rSlS (.str (S l)) none (some i) H Q :=
  ⟨j, rfl, S l, rfl, sz_of (by rw [S_len]; exact hl), by rw [hj, cutS_to]; exact q⟩
theorem i_slF {l : List Nat} {j : Int} {H : Hp} {Q : VK} (c : Nat) (hj : j = (c : Int)) (hl : l.length ≤ 100000) (q : Q (.str (S (l.drop c))) H) : ∃ i : Int, V.int j = .int i ∧ rSlS (.str (S l)) (some i) none H Q :=
  ⟨j, rfl, S l, rfl, sz_of (by rw [S_len]; exact hl), by rw [hj, cutS_fr]; exact q⟩
theorem i_addS {a b : List Nat} {N : Str → Str → Prop} (hz : a.length + b.length ≤ 100000) (q : N (S a) (S b)) : ∃ i j, V.str (S a) = .str i ∧ V.str (S b) = .str j ∧ i.length + j.length ≤ sizeLine ∧ N i j :=
  ⟨_, _, rfl, rfl, sz_of (by rw [S_len, S_len]; exact hz), q⟩
theorem atI_lastN {α : Type} {xs : List α} (h : xs ≠ []) : ∃ v, atI xs (0 - 1) = some v ∧ v ∈ xs := by
  have hp := List.length_pos_iff.mpr h
  have hl : xs.length - 1 < xs.length := by omega
  refine ⟨xs[xs.length - 1], ?_, List.getElem_mem hl⟩
  rw [show (0 - 1 : Int) = -1 from rfl]
  unfold atI ixN
  rw [if_neg (by decide), if_pos (by omega)]
  show xs[(-1 + (xs.length : Int)).toNat]? = _
  rw [show (-1 + (xs.length : Int)).toNat = xs.length - 1 by omega]
  exact List.getElem?_eq_getElem hl
theorem TB.mono {n1 n2 n3 m1 m2 m3 : Nat} {l : List Nat} (t : TB n1 n2 n3 l) (h1 : n1 ≤ m1) (h2 : n2 ≤ m2) (h3 : n3 ≤ m3) : TB m1 m2 m3 l := ⟨t.asc, t.w.mono h1, t.s.mono h2, Nat.le_trans t.r h3⟩
theorem TB.two {n1 n2 n3 k m : Nat} {l mid : List Nat} (t : TB n1 n2 n3 l) (hm : ∀ c ∈ mid, c < 128) (h1 : mid.length ≤ 1) (hk : k ≤ m) : TB (2 * n1 + 1) (2 * n2 + 1) (n3 + 2) (l.take k ++ mid ++ l.drop m) := by
  have one : ∀ {sep cnt : Nat → Bool}, Bd sep cnt 1 mid := fun {sep cnt} => Bd.of_len h1
  refine ⟨fun c hc => ?_, ((((t.w.sub (List.take_prefix k l).isInfix).app one).app (t.w.sub (List.drop_suffix m l).isInfix))).mono (by omega), ((((t.s.sub (List.take_prefix k l).isInfix).app one).app (t.s.sub (List.drop_suffix m l).isInfix))).mono (by omega), ?_⟩
  · simp only [List.mem_append] at hc
    rcases hc with (hc | hc) | hc
    · exact t.asc c (List.mem_of_mem_take hc)
    · exact hm c hc
    · exact t.asc c (List.mem_of_mem_drop hc)
  · rw [List.countP_append, List.countP_append]
    have e := congrArg (List.countP nlC) (List.take_append_drop k l)
    rw [List.countP_append] at e
    have s : (l.drop m).countP nlC ≤ (l.drop k).countP nlC := by
      obtain ⟨j, rfl⟩ : ∃ j, m = k + j := ⟨m - k, by omega⟩
      rw [← List.drop_drop]
      exact (List.drop_sublist _ _).countP_le
    have g : mid.countP nlC ≤ 1 := Nat.le_trans List.countP_le_length h1
    have := t.r
    omega
theorem TB.rowsJ {n1 n2 n3 : Nat} {l : List Nat} {ls : List (List Nat)} (t : TB n1 n2 n3 l) (h : ∀ r ∈ ls, r ∈ spl1 10 l) (hl : ls.length ≤ n3 + 2) : TB n1 n2 (n3 + 2) (TL.joinL [10] ls) := by
  have hi : ∀ r ∈ ls, r <:+: l ∧ 10 ∉ r := fun r hr => by
    have := spl_mem 10 l [] (by simp) r (h r hr)
    exact this
  refine ⟨Asc.join (by decide) _ fun r hr c hc => t.asc c ((hi r hr).1.subset hc), Bd.join (by decide) _ fun r hr => t.w.sub (hi r hr).1, Bd.join (by decide) _ fun r hr => t.s.sub (hi r hr).1, Nat.le_trans (cnt_join nlC 10 _ fun r hr => cnt_zero fun c hc => decide_eq_false fun e => ?_) hl⟩
  subst e
  exact (hi r hr).2 hc
def chgL : List Nat := [32, 10, 48, 49, 50, 51, 52, 53, 54, 55, 56, 57, 97, 98, 110, 101, 120, 116, 113, 117, 126, 45]
theorem z_chg : (" \n0123456789abnextqu~-" : Str).cps.toList = chgL := by decide +kernel
def spChg (K : PySem.W.Frag) : Sp := fun vs H Q _ => ∃ (h a : Addr) (l : List Nat) (n1 n2 n3 : Nat), vs = [.ref h, .str (S l)] ∧ Dr K H h a ∧ TB n1 n2 n3 l ∧ n1 ≤ 49 ∧ n2 ≤ 24 ∧ n3 ≤ 13 ∧
  ∀ l' H', ExB [h] H H' → Dr K H' h a → TB (2 * n1 + 1) (2 * n2 + 1) (n3 + 2) l' → Q (.str (S l')) H'
section
variable {P : Program} {w : World} {K : PySem.W.Frag} {mg : Str → Option Value} {base : Heap}
theorem ok_law_changed (A : All K mg) (c_law_drawn : Cal P w K mg base 1 "_law_drawn" (spDrawn K)) : Cal P w K mg base 2 "_law_changed" (spChg K) := by
  refine cal_of A.d_law_changed sc_law_changed (fun _ _ _ _ _ _ us hl => match us, hl with | [_, _], _ => rfl) (fun vs H Q E h => ?_) (fun f cdv A' outer s H0 vs Q E hr h => ?_)
  · obtain ⟨h, a, l, n1, n2, n3, rfl, _⟩ := h
    rfl
  · obtain ⟨h, a, l, n1, n2, n3, rfl, d, tb, h1, h2, h3, k⟩ := h
    have hu64 := hr.units
    obtain ⟨i, m, r, st, hS⟩ := d.start
    have tx := tb.ok (by omega) (by omega) (by omega)
    have hl9 := tx.len
    have hrw := tx.rows
    generalize hls : spl1 10 l = ls at hrw
    have hls0 : ls ≠ [] := by rw [← hls]; exact spl_pos 10 0 l []
    have hlsl : ls.length ≤ n3 + 1 := by
      rw [← hls, spl_len]
      exact Nat.succ_le_succ tb.r
    have hlen : ∀ r ∈ ls, r.length ≤ 90000 := fun r hr => (tx.row r (by rw [hls]; exact hr)).1
    refine ⟨_, (pss_cons (ps_par (i := 2) (j := 3) (by rfl) sc_law_changed.nd rfl rfl (by decide) rfl rfl (pa_cons (pc c_law_drawn hr (by decide) (pa_cons (pv 0) (pa_cons (pe_op op_add (pe_callB (id := "len") (k_len (K := K) rfl) (by rfl) A.b_len (by decide +kernel) (pa_cons (pv 1) pa_nil)) pe_int) pa_nil))) (pa_cons (pc c_law_drawn hr (by decide) (pa_cons (pv 0) (pa_cons pe_int pa_nil))) pa_nil)) (by rfl))
 (pss_cons (ps_set (i := 4) sc_law_changed.nd rfl (Or.inl rfl) (pe_ix ix_str pe_str (pc c_law_drawn hr (by decide) (pa_cons (pv 0) (pa_cons pe_int pa_nil))) (fun _ _ => rfl)))
 (pss_cons (ps_set (i := 5) sc_law_changed.nd rfl (Or.inl rfl) (pe_bm PySem.F.plainAttrs_str PySem.F.slot_str_split PySem.F.type_str_split mt_split (pv 1) (pa_cons pe_str pa_nil)))
 (pss_cons (ps_set (i := 6) sc_law_changed.nd rfl (Or.inl rfl) (pc c_law_drawn hr (by decide) (pa_cons (pv 0) (pa_cons (pe_callB (id := "len") (k_len (K := K) rfl) (by rfl) A.b_len (by decide +kernel) (pa_cons (pv 5) pa_nil)) pa_nil))))
 (pss_cons (ps_set (i := 7) sc_law_changed.nd rfl (Or.inl rfl) (pe_lst (pa_cons (pe_op op_add_str (pe_op op_add_str (pe_slice sl_str (pv 1) po_none (po_some (pv 2))) (pv 4)) (pe_slice sl_str (pv 1) (po_some (pv 2)) po_none)) (pa_cons (pe_op op_add_str (pe_op op_add_str (pe_slice sl_str (pv 1) po_none (po_some (pv 2))) (pv 4)) (pe_slice sl_str (pv 1) (po_some (pe_op op_add (pv 2) pe_int)) po_none)) (pa_cons (pe_op op_add_str (pe_slice sl_str (pv 1) po_none (po_some (pv 2))) (pe_slice sl_str (pv 1) (po_some (pe_op op_add (pv 2) pe_int)) po_none)) pa_nil)))))
 (pss_cons (ps_set (i := 7) sc_law_changed.nd rfl (Or.inl rfl) (pe_op op_cat (pv 7) (pe_lst (pa_cons (pv 1) (pa_cons (k_bm (K := K) rfl PySem.F.plainAttrs_str PySem.F.slot_str_join PySem.F.type_str_join (k_join (K := K) rfl) pe_str (pa_cons (pe_op op_cat (pe_slice sl_list (pv 5) po_none (po_some (pv 6))) (pe_slice sl_list (pv 5) (po_some (pe_op op_add (pv 6) pe_int)) po_none)) pa_nil)) pa_nil)))))
 (pss_cons (ps_set (i := 5) sc_law_changed.nd rfl (Or.inl rfl) (pe_op op_cat (pe_op op_cat (pe_slice sl_list (pv 5) po_none (po_some (pv 6))) (pe_lst (pa_cons (pe_ix (k_ixL (K := K) rfl) (pv 5) (pe_op op_sub pe_int pe_int) (fun _ _ => rfl)) pa_nil))) (pe_slice sl_list (pv 5) (po_some (pv 6)) po_none)))
 (pss_one (ps_ret (pe_ix (k_ixL (K := K) rfl) (pe_op op_cat (pv 7) (pe_lst (pa_cons (k_bm (K := K) rfl PySem.F.plainAttrs_str PySem.F.slot_str_join PySem.F.type_str_join (k_join (K := K) rfl) pe_str (pa_cons (pv 5) pa_nil)) pa_nil))) (pv 3) (fun _ _ => rfl))))))))))), ?_⟩
    walk_at "begin"
    refine i_lenS (sz_of (by rw [S_len]; omega)) ?_
    rw [S_len]
    walk_at "go"
    refine st_drawn st hS (by omega) (by omega) fun x i m r H x0 x1 st => ?_
    obtain ⟨c, rfl⟩ : ∃ c : Nat, x = c := ⟨x.toNat, by omega⟩
    walk_at "go"
    refine st_drawn st hS (by decide) (by decide) fun br i m r H br0 br1 st => ?_
    walk_at "go"
    refine ⟨_, _, rfl, ?_⟩
    walk_at "go"
    refine st_drawn st hS (by decide) (by decide) fun y i m r H y0 y1 st => ?_
    obtain ⟨ch, hch, hcm⟩ := atI_mem (xs := chgL) y0 (by exact y1)
    refine ⟨_, y, ch, rfl, rfl, by decide +kernel, by rw [z_chg]; exact hch, ?_⟩
    have hc128 : ch < 128 := by
      have : ∀ c ∈ chgL, c < 128 := by decide
      exact this ch hcm
    rw [show (⟨#[ch]⟩ : Str) = S [ch] from rfl]
    walk_at "go"
    refine i_tyX ?_
    walk_at "go"
    refine ⟨S l, "\n", rfl, rfl, by decide +kernel, sz_of (by rw [S_len]; omega), fun ll nll => ?_⟩
    rw [z_nl, split1 (by decide), hls]
    have st := st.new (o := .lst ((ls.map S).map V.str)) nll trivial
    walk_at "go"
    refine i_lenL (xs := (ls.map S).map V.str) (st.sqL 1 rfl) ?_
    rw [List.length_map, List.length_map]
    have hp := List.length_pos_iff.mpr hls0
    walk_at "go"
    refine st_drawn (L := [(ll, .lst ((ls.map S).map V.str))]) st hS (by omega) (by omega) fun rw' i m r H rw0 rw1 st => ?_
    obtain ⟨rw, rfl⟩ : ∃ c : Nat, rw' = c := ⟨rw'.toNat, by omega⟩
    have hrw1 : rw < ls.length := by omega
    clear rw0 rw1 y0 y1 hch
    -- the three
    have hl10 : l.length ≤ 100000 := by omega
    have ht : ∀ c, (l.take c).length ≤ 90000 := fun c => by rw [List.length_take]; omega
    have hd : ∀ c, (l.drop c).length ≤ 90000 := fun c => by rw [List.length_drop]; omega
    have lenA : ∀ c k, c ≤ k → (l.take c ++ [ch]).length + (l.drop k).length ≤ 100000 := fun c k hk => by
      rw [List.length_append, List.length_take, List.length_drop]
      show min c l.length + 1 + _ ≤ _
      omega
    have lenB : ∀ c k, c ≤ k → (l.take c).length + (l.drop k).length ≤ 100000 := fun c k hk => by
      rw [List.length_take, List.length_drop]
      omega
    have hmid : ∀ x ∈ [ch], x < 128 := fun x hx => by rw [List.mem_singleton.mp hx]; exact hc128
    have t1 : TB (2 * n1 + 1) (2 * n2 + 1) (n3 + 2) (l.take c ++ [ch] ++ l.drop c) := tb.two hmid (by simp) (Nat.le_refl _)
    have t2 : TB (2 * n1 + 1) (2 * n2 + 1) (n3 + 2) (l.take c ++ [ch] ++ l.drop (c + 1)) := tb.two hmid (by simp) (by omega)
    have t3 : TB (2 * n1 + 1) (2 * n2 + 1) (n3 + 2) (l.take c ++ l.drop (c + 1)) := by
      have := tb.two (mid := []) (k := c) (m := c + 1) (fun x hx => nomatch hx) (by simp) (by omega)
      rw [List.append_nil] at this
      exact this
    walk_at "go"
    refine sl_to ?_
    walk_at "go"
    refine i_slT c rfl hl10 ?_
    walk_at "go"
    refine i_addS (a := l.take c) (b := [ch]) (by have := ht c; show _ + 1 ≤ _; omega) ?_
    rw [SX.S_cat]
    walk_at "go"
    refine sl_fr ?_
    walk_at "go"
    refine i_slF c rfl hl10 ?_
    refine i_addS (a := l.take c ++ [ch]) (b := l.drop c) (lenA c c (Nat.le_refl _)) ?_
    rw [SX.S_cat]
    walk_at "go"
    refine sl_to ?_
    walk_at "go"
    refine i_slT c rfl hl10 ?_
    walk_at "go"
    refine i_addS (a := l.take c) (b := [ch]) (by have := ht c; show _ + 1 ≤ _; omega) ?_
    rw [SX.S_cat]
    walk_at "go"
    refine sl_fr ?_
    walk_at "go"
    refine i_slF (c + 1) (by omega) hl10 ?_
    refine i_addS (a := l.take c ++ [ch]) (b := l.drop (c + 1)) (lenA c (c + 1) (by omega)) ?_
    rw [SX.S_cat]
    walk_at "go"
    refine sl_to ?_
    walk_at "go"
    refine i_slT c rfl hl10 ?_
    walk_at "go"
    refine sl_fr ?_
    walk_at "go"
    refine i_slF (c + 1) (by omega) hl10 ?_
    refine i_addS (a := l.take c) (b := l.drop (c + 1)) (lenB c (c + 1) (by omega)) ?_
    rw [SX.S_cat]
    generalize l.take c ++ [ch] ++ l.drop c = r1 at t1
    generalize l.take c ++ [ch] ++ l.drop (c + 1) = r2 at t2
    generalize l.take c ++ l.drop (c + 1) = r3 at t3
    clear lenA lenB ht hd hmid
    walk_at "go"
    refine st_newL st (by simp) fun p1 np1 st => ?_
    -- a line less
    walk_at "go"
    refine i_tyX ?_
    walk_at "go"
    refine sl_to ?_
    walk_at "go"
    have lsl : ((ls.map S).map V.str).length = ls.length := by rw [List.length_map, List.length_map]
    refine ⟨_, rfl, ll, (ls.map S).map V.str, rfl, st.sqL 1 rfl, fun q1 nq1 => ?_⟩
    rw [cut_toV (by omega)]
    have st := st.new (o := .lst (((ls.map S).map V.str).take rw)) nq1 trivial
    walk_at "go"
    refine sl_fr ?_
    walk_at "go"
    refine ⟨_, rfl, ll, (ls.map S).map V.str, rfl, st.sqL 1 rfl, fun q2 nq2 => ?_⟩
    rw [show (rw : Int) + 1 = ((rw + 1 : Nat) : Int) by omega, cut_frV (by omega)]
    have st := st.new (o := .lst (((ls.map S).map V.str).drop (rw + 1))) nq2 trivial
    refine st_cat st (st.at 3 rfl) (st.at 4 rfl) (by rw [List.length_take, List.length_drop]; omega) fun q3 H3 nq3 e3 st => ?_
    simp only [← List.map_take, ← List.map_drop, ← List.map_append] at st
    have t5 : TB n1 n2 (n3 + 2) (TL.joinL [10] (ls.take rw ++ ls.drop (rw + 1))) := tb.rowsJ (fun r hr => by
      rw [hls]
      rcases List.mem_append.mp hr with hr | hr
      · exact List.mem_of_mem_take hr
      · exact List.mem_of_mem_drop hr) (by rw [List.length_append, List.length_take, List.length_drop]; omega)
    walk_at "go"
    refine i_joinS 90000 z_nl (st.sqL 5 rfl) (fun r hr => by
      rcases List.mem_append.mp hr with hr | hr
      · exact hlen r (List.mem_of_mem_take hr)
      · exact hlen r (List.mem_of_mem_drop hr)) ?_ ?_
    · have : (ls.take rw ++ ls.drop (rw + 1)).length ≤ 15 := by rw [List.length_append, List.length_take, List.length_drop]; omega
      have := Nat.mul_le_mul_right (90000 + [10].length) this
      simp only [List.length_cons, List.length_nil] at this ⊢
      omega
    rw [SX.join_S]
    generalize TL.joinL [10] (ls.take rw ++ ls.drop (rw + 1)) = r5 at t5
    walk_at "go"
    refine st_newL st (by simp) fun p2 np2 st => ?_
    refine st_cat st (st.at 2 rfl) (st.at 6 rfl) (by simp) fun p3 H4 np3 e4 st => ?_
    have st := st.picks [0, 1, 7] (by decide) (L' := dL h a i m r [(ll, .lst ((ls.map S).map V.str)), (p3, .lst ([V.str (S r1), V.str (S r2), V.str (S r3)] ++ [V.str (S l), V.str (S r5)]))]) rfl
    -- a line more
    walk_at "go"
    refine sl_to ?_
    walk_at "go"
    refine ⟨_, rfl, ll, (ls.map S).map V.str, rfl, st.sqL 1 rfl, fun q1 nq1 => ?_⟩
    rw [cut_toV (by omega)]
    have st := st.new (o := .lst (((ls.map S).map V.str).take rw)) nq1 trivial
    walk_at "go"
    obtain ⟨lv, hlv, hlm⟩ := atI_lastN (xs := (ls.map S).map V.str) (by simpa using hls0)
    obtain ⟨rl, rfl, hrl⟩ : ∃ r, lv = V.str (S r) ∧ r ∈ ls := by
      obtain ⟨z, hz, rfl⟩ := List.mem_map.mp hlm
      obtain ⟨r, hr, rfl⟩ := List.mem_map.mp hz
      exact ⟨r, rfl, hr⟩
    refine i_ixL (st.sqL 1 rfl) hlv ?_
    walk_at "go"
    refine st_newL st (by simp) fun q2 nq2 st => ?_
    refine st_cat st (st.at 3 rfl) (st.at 4 rfl) (by rw [List.length_take]; simp; omega) fun q3 H5 nq3 e5 st => ?_
    walk_at "go"
    refine sl_fr ?_
    walk_at "go"
    refine ⟨_, rfl, ll, (ls.map S).map V.str, rfl, st.sqL 1 rfl, fun q4 nq4 => ?_⟩
    rw [cut_frV (by omega)]
    have st := st.new (o := .lst (((ls.map S).map V.str).drop rw)) nq4 trivial
    refine st_cat st (st.at 5 rfl) (st.at 6 rfl) (by rw [List.length_append, List.length_take, List.length_drop]; simp; omega) fun q5 H6 nq5 e6 st => ?_
    have e6 : ((ls.map S).map V.str).take rw ++ [V.str (S rl)] ++ ((ls.map S).map V.str).drop rw = ((ls.take rw ++ [rl] ++ ls.drop rw).map S).map V.str := by
      simp only [List.map_take, List.map_drop, List.map_append, List.map_cons, List.map_nil]
    rw [e6] at st
    have hmem : ∀ r ∈ ls.take rw ++ [rl] ++ ls.drop rw, r ∈ ls := fun r hr => by
      simp only [List.mem_append, List.mem_singleton] at hr
      rcases hr with (hr | rfl) | hr
      · exact List.mem_of_mem_take hr
      · exact hrl
      · exact List.mem_of_mem_drop hr
    have hlen6 : (ls.take rw ++ [rl] ++ ls.drop rw).length ≤ n3 + 2 := by
      rw [List.length_append, List.length_append, List.length_take, List.length_drop]
      show _ + 1 + _ ≤ _
      omega
    have t6 : TB n1 n2 (n3 + 2) (TL.joinL [10] (ls.take rw ++ [rl] ++ ls.drop rw)) := tb.rowsJ (fun r hr => by
      rw [hls]
      exact hmem r hr) hlen6
    walk_at "go"
    refine i_tyX ?_
    walk_at "go"
    refine i_joinS 90000 z_nl (st.sqL 7 rfl) (fun r hr => hlen r (hmem r hr)) ?_ ?_
    · have := Nat.mul_le_mul_right (90000 + [10].length) (show _ ≤ 15 from Nat.le_trans hlen6 (by omega))
      simp only [List.length_cons, List.length_nil] at this ⊢
      omega
    rw [SX.join_S]
    generalize TL.joinL [10] (ls.take rw ++ [rl] ++ ls.drop rw) = r6 at t6
    walk_at "go"
    refine st_newL st (by simp) fun p4 np4 st => ?_
    refine st_cat st (st.at 2 rfl) (st.at 8 rfl) (by simp) fun p5 H7 np5 e7 st => ?_
    walk_at "go"
    obtain ⟨v, hv, hm⟩ := atI_mem (xs := [V.str (S r1), V.str (S r2), V.str (S r3)] ++ [V.str (S l), V.str (S r5)] ++ [V.str (S r6)]) br0 (by exact br1)
    refine i_ixL (st.sqL 9 rfl) hv ?_
    have fin : ∀ l', TB (2 * n1 + 1) (2 * n2 + 1) (n3 + 2) l' → Q (V.str (S l')) H7 := fun l' t => k l' H7 st.exB (st.dr hS) t
    simp only [List.cons_append, List.nil_append, List.mem_cons, List.not_mem_nil, or_false] at hm
    rcases hm with rfl | rfl | rfl | rfl | rfl | rfl
    · exact fin _ t1
    · exact fin _ t2
    · exact fin _ t3
    · exact fin _ (tb.mono (by omega) (by omega) (by omega))
    · exact fin _ (t5.mono (by omega) (by omega) (by omega))
    · exact fin _ (t6.mono (by omega) (by omega) (by omega))
end
end Fb

namespace Fb
open PySem PySem.Spec PyProof.Rows L2 PySem.HandSPX SX
/-! ### outcomes of the parsers, and what the law expects -/
theorem al_wi {K : PySem.W.Frag} {H : Hp} {n : Nat} {x y : V} {w : Str} {i : Int} (hx : Dt K H x (.tuple [.str w, .int i])) (hy : Dt K H y (.tuple [.str w, .int i])) : AlV K H (n + 2) x y := by
  obtain ⟨a, xs, rfl, ha, hxs⟩ := hx.tup_inv
  obtain ⟨b, ys, rfl, hb, hys⟩ := hy.tup_inv
  cases hxs with
  | cons h1 h2 =>
    cases h1
    cases h2 with
    | cons h3 h4 =>
      cases h3
      cases h4
      cases hys with
      | cons g1 g2 =>
        cases g1
        cases g2 with
        | cons g3 g4 =>
          cases g3
          cases g4
          exact .inr (.inl ⟨false, a, b, _, _, rfl, rfl, ha.sq, hb.sq, by simp, .cons al_str (.cons al_int .nil)⟩)
theorem al_wii {K : PySem.W.Frag} {H : Hp} {n : Nat} {x y : V} {w : Str} {i j : Int} (hx : Dt K H x (.tuple [.str w, .int i, .int j])) (hy : Dt K H y (.tuple [.str w, .int i, .int j])) : AlV K H (n + 2) x y := by
  obtain ⟨a, xs, rfl, ha, hxs⟩ := hx.tup_inv
  obtain ⟨b, ys, rfl, hb, hys⟩ := hy.tup_inv
  cases hxs with
  | cons h1 h2 =>
    cases h1
    cases h2 with
    | cons h3 h4 =>
      cases h3
      cases h4 with
      | cons h5 h6 =>
        cases h5
        cases h6
        cases hys with
        | cons g1 g2 =>
          cases g1
          cases g2 with
          | cons g3 g4 =>
            cases g3
            cases g4 with
            | cons g5 g6 =>
              cases g5
              cases g6
              exact .inr (.inl ⟨false, a, b, _, _, rfl, rfl, ha.sq, hb.sq, by simp, .cons al_str (.cons al_int (.cons al_int .nil))⟩)
theorem al_w1 {K : PySem.W.Frag} {H : Hp} {n : Nat} {x y : V} {w : Str} (hx : Dt K H x (.tuple [.str w])) (hy : Dt K H y (.tuple [.str w])) : AlV K H (n + 2) x y := by
  obtain ⟨a, xs, rfl, ha, hxs⟩ := hx.tup_inv
  obtain ⟨b, ys, rfl, hb, hys⟩ := hy.tup_inv
  cases hxs with
  | cons h1 h2 =>
    cases h1
    cases h2
    cases hys with
    | cons g1 g2 =>
      cases g1
      cases g2
      exact .inr (.inl ⟨false, a, b, _, _, rfl, rfl, ha.sq, hb.sq, by simp, .cons al_str .nil⟩)
theorem netN_size {l : List Nat} (t : TxOk l) : (netN l).length ≤ 90000 ∧ ∀ q ∈ netN l, q.length ≤ 90000 := by
  have h1 := t.rows
  refine ⟨by simp [netN, rowsN]; omega, fun q hq => ?_⟩
  unfold netN rowsN rowN at hq
  rw [List.map_map] at hq
  obtain ⟨r, hr, rfl⟩ := List.mem_map.mp hq
  have h2 := (t.row r hr).2.1
  have h3 := List.length_filterMap_le id ((spl1 32 r).map plcW)
  rw [List.length_map] at h3
  show (List.filterMap id ((spl1 32 r).map plcW)).length ≤ _
  omega
theorem al_dN {K : PySem.W.Frag} {H : Hp} {l : List Nat} (t : TxOk l) {x y : V} (hx : Dt K H x (dN l)) (hy : Dt K H y (dN l)) : AlV K H 5 x y := by
  unfold dN at hx hy
  cases e : noneAt l with
  | some i =>
    rw [e] at hx hy
    exact al_wi (n := 3) hx hy
  | none =>
    rw [e] at hx hy
    dsimp only at hx hy
    cases e2 : badNet (netN l) with
    | some p =>
      rw [e2] at hx hy
      exact al_wii (n := 3) hx hy
    | none =>
      rw [e2] at hx hy
      obtain ⟨h1, h2⟩ := netN_size t
      exact al_net (n := 2) hx hy h1 h2
theorem StOk.smq {net : List (List Key)} {n : Int} {qs : List (List Int)} (so : StOk net n qs) (ok : NetOk net) : SmQ 8 qs ∧ 8 * qs.length ≤ 1000 := by
  have h40 := ok.le
  refine ⟨⟨by rw [so.len]; omega, fun q hq => ?_⟩, by rw [so.len]; omega⟩
  obtain ⟨i, hi⟩ := List.getElem?_of_mem hq
  have hl : i < net.length := by rw [← so.len]; exact (List.getElem?_eq_some_iff.mp hi).1
  have e : net[i]? = some (net.getD i []) := getDs hl
  have h1 := so.short i q _ hi e
  have h2 := (ok.size i _ e).2
  omega
/-- what comes of a state's text -/
def RSt (K : PySem.W.Frag) (net : List (List Key)) (l : List Nat) (v : V) (H : Hp) : Prop := match stR net.length l with
    | .error i => Dt K H v (.tuple [.str "InvalidText", .int (i : Int)])
    | .ok (a, qs) => (StOk net a qs → Dt K H v (stD a qs)) ∧ (¬ StOk net a qs → Dt K H v (.tuple [.str "InvalidState"]))
theorem Pers.rst {K : PySem.W.Frag} {net : List (List Key)} {l : List Nat} {v : V} : Pers (RSt K net l v) := fun H H' t h => by
  unfold RSt at h ⊢
  cases e : stR net.length l with
  | error i =>
    rw [e] at h
    exact Dt.keep t _ _ h
  | ok p =>
    rw [e] at h
    exact ⟨fun so => Dt.keep t _ _ (h.1 so), fun so => Dt.keep t _ _ (h.2 so)⟩
theorem al_rst {K : PySem.W.Frag} {H : Hp} {net : List (List Key)} {l : List Nat} (ok : NetOk net) {x y : V} (hx : RSt K net l x H) (hy : RSt K net l y H) : AlV K H 5 x y := by
  unfold RSt at hx hy
  cases e : stR net.length l with
  | error i =>
    rw [e] at hx hy
    exact al_wi (n := 3) hx hy
  | ok p =>
    obtain ⟨a, qs⟩ := p
    rw [e] at hx hy
    by_cases so : StOk net a qs
    · refine al_st (n := 1) (hx.1 so) (hy.1 so) (fun q hq => ?_) (by rw [so.len]; have := ok.le; omega)
      obtain ⟨i, hi⟩ := List.getElem?_of_mem hq
      have hil : i < net.length := by rw [← so.len]; exact (List.getElem?_eq_some_iff.mp hi).1
      have h1 := so.short i q _ hi (getDs (d := []) hil)
      have h2 := (ok.size i _ (getDs (d := []) hil)).2
      omega
    · exact al_w1 (n := 3) (hx.2 so) (hy.2 so)
theorem out_text2 {K : PySem.W.Frag} {Cs : List Addr} {o : PyData} {Q : VK} {H H1 : Hp} {d C : Addr} {n : Int} (ho : o = .tuple [.str "InvalidText", .int n]) (h1 : Cs[8]? = some C) (k : ∀ v H2, Same H H2 → Dt K H2 v o → Q v H2) (e : Same H H1) (nd : H1 d = none) : OutEch K Cs Q (.ref C) (some d) (upd H1 d (.xd [("row", .int n)])) :=
  ⟨8, C, "InvalidText", ["row"], [.int n], h1, rfl, rfl, rfl, .inr ⟨by simp, d, _, rfl, upd_same, rfl⟩, fun p H2 e2 hp => k _ _ (fun a u h => e2 a u (Same.new nd a u (e a u h))) (by subst ho; exact .tup hp (.cons (.str _) (.cons (.int _) .nil)))⟩
section
variable {K : PySem.W.Frag} {C0 C1 CT : Addr} {Cs : List Addr} {H : Hp} {Q : VK} {l : List Nat}
theorem out_pnet (tx : TxOk l) (h0 : Cs[5]? = some C0) (hT : Cs[8]? = some CT) (k : ∀ v H', Same H H' → Dt K H' v (dN l) → Q v H') : spPNet K C0 CT [.str (S l)] H Q (OutEch K Cs Q) := by
  refine ⟨l, rfl, tx, ?_⟩
  unfold dN at k
  cases e : noneAt l with
  | some i =>
    rw [e] at k
    intro d H1 e1 nd
    exact out_text2 rfl hT k e1 nd
  | none =>
    rw [e] at k
    refine ⟨fun hb v H' e1 hv => ?_, fun st se hb d H1 e1 nd => ?_⟩
    · rw [hb] at k
      exact k v H' e1 hv
    · rw [hb] at k
      exact out_net2 rfl h0 k e1 nd
theorem out_pst {nv : V} {net : List (List Key)} (hn : Dt K H nv (netD net)) (ok : NetOk net) (h6 : net.length ≤ 6) (tx : TxOk l) (h1 : Cs[7]? = some C1) (hT : Cs[8]? = some CT) (k : ∀ v H', Same H H' → RSt K net l v H' → Q v H') : spPSt K C0 C1 CT [nv, .str (S l)] H Q (OutEch K Cs Q) := by
  refine ⟨nv, net, l, rfl, hn, net_wild ok, h6, tx, .inl ⟨ok, ?_⟩⟩
  unfold RSt at k
  cases e : stR net.length l with
  | error i =>
    rw [e] at k
    intro d H1 e1 nd
    exact out_text2 rfl hT k e1 nd
  | ok p =>
    obtain ⟨a, qs⟩ := p
    rw [e] at k
    refine ⟨fun so v H' e1 hv => k v H' e1 ⟨fun _ => hv, fun no => absurd so no⟩, fun no H' e1 => ?_⟩
    exact out_w2 (j := 7) rfl h1 rfl rfl (fun v H2 e2 hv => k v H2 e2 ⟨fun so => absurd so no, fun _ => hv⟩) e1
end
theorem TxOk.lit {l : List Nat} (h1 : l.length ≤ 20) (h2 : (l.all fun c => decide (c < 128)) = true) (h3 : l.countP nlC ≤ 15) : TxOk l :=
  TB.ok (n1 := 20) (n2 := 20) (n3 := 15) ⟨fun c hc => of_decide_eq_true (List.all_eq_true.mp h2 c hc), Bd.of_len h1, Bd.of_len h1, h3⟩ (by decide) (by decide) (by decide)
theorem netOk_a : NetOk [[.inr "a"]] := by
  refine ⟨by decide, by decide, fun i seats h => ?_, fun i seats k h hk => ?_⟩
  · cases i with
    | zero =>
      obtain rfl := Option.some.inj h
      exact ⟨by decide, by decide⟩
    | succ i => cases h
  · cases i with
    | zero =>
      obtain rfl := Option.some.inj h
      rw [List.mem_singleton.mp hk]
      exact ⟨by decide, by decide, by decide +kernel⟩
    | succ i => cases h
def litX : List Nat := [120]
def litT : List Nat := [116, 111, 111, 108, 111, 110, 103, 111, 110, 101]
def litQ : List Nat := [110, 101, 120, 116, 32, 49, 10, 113, 117, 101, 117, 101, 10]
def litN : List Nat := [110, 101, 120, 116, 32, 49, 32, 49, 10, 113, 117, 101, 117, 101]
theorem z_x : ("x" : Str) = S litX := by decide +kernel
theorem z_long : ("toolongone" : Str) = S litT := by decide +kernel
theorem z_q2 : ("next 1\nqueue\n" : Str) = S litQ := by decide +kernel
theorem z_n11 : ("next 1 1\nqueue" : Str) = S litN := by decide +kernel
theorem long_none : noneAt litT = none := by decide +kernel
theorem long_bad : badNet (netN litT) = some (0, 0) := by decide +kernel
theorem q2_st : stR 1 litQ = .error 2 := by kernel_rfl
theorem n11_st : stR 1 litN = .error 0 := by kernel_rfl
end Fb

namespace Fb
open PySem PySem.Spec PyProof.Rows L2 PySem.HandSPX SX
def spLaw (K : PySem.W.Frag) : Sp := fun vs H Q _ => ∃ (a : Addr) (ns : List Int), vs = [.ref a] ∧ SqL K H a (iV ns) ∧ ns.length ≤ 63 ∧ LamX.Tabs tabT H ∧ ∀ H', Q (.bl true) H'
theorem SqL.noT {K : PySem.W.Frag} {H : Hp} {a : Addr} {xs : List V} (h : SqL K H a xs) : SqL K (Fb.noT H) a xs := by
  rcases h with (h | ⟨o, h⟩) | h
  · exact .inl (.inl (noT_to h (fun ps e => by cases e)))
  · exact .inl (.inr ⟨o, noT_to h (fun ps e => by cases e)⟩)
  · exact .inr h
theorem ne_self {α : Type} [DecidableEq α] {x : α} {N M : Prop} (m : M) : if (!decide (x = x)) = true then N else M := by
  rw [decide_eq_true rfl]
  exact m
section
variable {P : Program} {w : World} {K : PySem.W.Frag} {mg : Str → Option Value} {base : Heap}
set_option maxHeartbeats 0 in
theorem ok_law (A : All K mg) {F c0 c1 c2 c3 c4 c5 c6 c7 c8 c9 c10 c11 c12 c13 : Addr} (Er : ErrO K mg F [c0, c1, c2, c3, c4, c5, c6, c7, c8, c9, c10, c11, c12, c13])
    (ow : errOwn K [c7] = true) (IN : InetK K mg c5) (KT : KxInvalidText K mg c8)
    {f c Pt : Addr} {oc : Value} {od an : Option Addr} {osl : Array (Option Value)} {kW doc pm ct : Value} (lk : K.lookup f = some ⟨oc, od, .func (PySem.W.fnOf "law" "law" (defArgs s_law) (defBody s_law) (defScope s_law) .none kW doc pm an (.ref c) ct), osl⟩) (hcd : PySem.W.codeIn K (.ref c) "law" = true) (TBb : LamX.TabB base mg c Pt) (tm1 : (Pt, lamQ "law") ∈ tabT) (tm2 : ∀ p ∈ tabT, p.1 = Pt → p.2 = lamQ "law") :
    FnOk P w K mg base (L2.CX P w) 15 f (PySem.W.fnOf "law" "law" (defArgs s_law) (defBody s_law) (defScope s_law) .none kW doc pm an (.ref c) ct) ["_law_script"] (spLaw K) := by
  have O_InvalidState : OwnC K c7 := OwnC.of Er (by simp) (List.all_eq_true.mp ow _ (by simp))
  have m_InvalidState : mg "InvalidState" = some (.ref c7) := ErrN.at (i := 7) Er.n rfl rfl
  have c_is_port : Cal P w K mg base 1 "is_port" spPort := ok_is_port A
  have c_is_valid_place := ok_is_valid_place A c_is_port
  have c_first_invalid_seat := ok_first_invalid_seat A c_is_valid_place
  have c_validate_network := ok_validate_network_x (P := P) (w := w) (base := base) A IN c_first_invalid_seat
  have c_is_valid_state := ok_is_valid_state_g (P := P) (w := w) (base := base) A
  have c_validate_state := ok_validate_state_g A O_InvalidState m_InvalidState c_is_valid_state
  have c_law_start := ok_law_start (P := P) (w := w) (base := base) A
  have c_law_drawn := ok_law_drawn (P := P) (w := w) (base := base) A
  have c_law_network := ok_law_network2 A c_law_drawn
  have c_law_random_state := ok_law_random_state A c_law_drawn
  have c_law_same := ok_law_same (P := P) (w := w) (base := base) A 5
  have c_consists_of := ok_consists_of (P := P) (w := w) (base := base) A
  have c_parse_number := ok_parse_number A c_consists_of
  have c_parse_place := ok_parse_place A c_consists_of c_parse_number
  have c_parse_network := ok_parse_network A KT c_validate_network c_parse_place
  have c_parse_numbers := ok_parse_numbers A c_parse_number
  have c_parse_state := ok_parse_state A KT c_validate_network c_validate_state c_parse_numbers
  have c_format_network := ok_format_network A c_validate_network
  have c_format_state := ok_format_state A c_validate_network c_validate_state
  have c_law_integer := ok_law_integer (P := P) (w := w) (base := base) A
  have c_law_place := ok_law_place A c_law_integer
  have c_law_invalid := ok_law_invalid (P := P) (w := w) (base := base) A
  have c_law_network_of := ok_law_network_of A c_law_place c_law_invalid
  have c_law_state_of := ok_law_state_of A c_law_integer
  have c_law_changed := ok_law_changed A c_law_drawn
  refine fn_lawL lk hcd TBb tm1 tm2 sc_law (fun vs H Q E h => ?_) (fun A' outer s H0 vs Q E hr lo h => ?_)
  · obtain ⟨a, ns, rfl, _⟩ := h
    rfl
  · obtain ⟨a, ns, rfl, hs, hl, tabs, k⟩ := h
    have hu64 := hr.units
    have hu := hu_of hr
    refine ⟨_, (pss_cons (ps_set (i := 1) sc_law.nd rfl (Or.inl rfl) (pc c_law_start hr (by decide) (pa_cons (pv 0) pa_nil)))
 (pss_cons (ps_for PassesOwn.never rfl (pi_range1 (by rfl) A.b_range (pa_cons pe_int pa_nil)) (pg_name (i := 2) sc_law.nd rfl (Or.inl rfl))
 (pss_cons (ps_set (i := 6) sc_law.nd rfl (Or.inr rfl) (pc c_law_network hr (by decide) (pa_cons (pv 1) (pa_cons pe_int pa_nil))))
 (pss_cons (ps_set (i := 8) sc_law.nd rfl (Or.inr rfl) (pc c_law_random_state hr (by decide) (pa_cons (pv 1) (pa_cons (pv 6) pa_nil))))
 (pss_cons (ps_set (i := 9) sc_law.nd rfl (Or.inr rfl) (k_bm (K := K) rfl PySem.F.plainAttrs_str PySem.F.slot_str_join PySem.F.type_str_join (k_join (K := K) rfl) pe_str (pa_cons (pe_lc rfl sc_law.nd (k_pt (K := K) rfl (pv 6)) (blkOk_by (own := [("_law_seats", 10)]) (N := ["_law_script", "_law_state", "_law_turn", "_law_change", "_law_works", "_law_expected", "_law_network_here", "_law_other", "_law_position", "_law_text", "_law_seats", "_law_work", "_law_queue", "_law_place_here", "_law_one"]) (sc := defScope s_law) (by decide +kernel)) (fun _ _ _ _ _ => (pg_name (i := 10) sc_law.nd rfl (Or.inl rfl))) (fun _ _ _ _ _ => pts_nil) (fun _ _ _ _ _ => (k_bm (K := K) rfl PySem.F.plainAttrs_str PySem.F.slot_str_join PySem.F.type_str_join (k_join (K := K) rfl) pe_str (pa_cons (pe_lc rfl sc_law.nd (k_pt (K := K) rfl (pv 10)) (blkOk_by (own := [("_law_place_here", 13)]) (N := ["_law_script", "_law_state", "_law_turn", "_law_change", "_law_works", "_law_expected", "_law_network_here", "_law_other", "_law_position", "_law_text", "_law_seats", "_law_work", "_law_queue", "_law_place_here", "_law_one"]) (by kernel_rfl)) (fun _ _ _ _ _ => (pg_name (i := 13) sc_law.nd rfl (Or.inl rfl))) (fun _ _ _ _ _ => pts_nil) (fun _ _ _ _ _ => (pe_callTy (T := "str") call_strK (by rfl) A.b_str (by decide +kernel) (pa_cons (pv 13) pa_nil)))) pa_nil)))) pa_nil)))
 (pss_cons (ps_set (i := 7) sc_law.nd rfl (Or.inr rfl) (pe_lst (pa_cons (pe_op op_add_str pe_str (pe_callTy (T := "str") call_str_int (by rfl) A.b_str (by decide +kernel) (pa_cons (pe_ix (k_ixT (K := K) rfl) (pv 8) pe_int (fun _ _ => rfl)) pa_nil))) pa_nil)))
 (pss_cons (ps_set (i := 7) sc_law.nd rfl (Or.inr rfl) (k_bm (K := K) rfl PySem.F.plainAttrs_str PySem.F.slot_str_join PySem.F.type_str_join (k_join (K := K) rfl) pe_str (pa_cons (pe_op op_cat (pv 7) (pe_lc rfl sc_law.nd (k_pt (K := K) rfl (pe_ix (k_ixT (K := K) rfl) (pv 8) pe_int (fun _ _ => rfl))) (blkOk_by (own := [("_law_queue", 12)]) (N := ["_law_script", "_law_state", "_law_turn", "_law_change", "_law_works", "_law_expected", "_law_network_here", "_law_other", "_law_position", "_law_text", "_law_seats", "_law_work", "_law_queue", "_law_place_here", "_law_one"]) (sc := defScope s_law) (by decide +kernel)) (fun _ _ _ _ _ => (pg_name (i := 12) sc_law.nd rfl (Or.inl rfl))) (fun _ _ _ _ _ => pts_nil) (fun _ _ _ _ _ => (k_bm (K := K) rfl PySem.F.plainAttrs_str PySem.F.slot_str_join PySem.F.type_str_join (k_join (K := K) rfl) pe_str (pa_cons (pe_op op_cat (pe_lst (pa_cons pe_str pa_nil)) (pe_lc rfl sc_law.nd (k_pt (K := K) rfl (pv 12)) (blkOk_by (own := [("_law_one", 14)]) (N := ["_law_script", "_law_state", "_law_turn", "_law_change", "_law_works", "_law_expected", "_law_network_here", "_law_other", "_law_position", "_law_text", "_law_seats", "_law_work", "_law_queue", "_law_place_here", "_law_one"]) (by kernel_rfl)) (fun _ _ _ _ _ => (pg_name (i := 14) sc_law.nd rfl (Or.inl rfl))) (fun _ _ _ _ _ => pts_nil) (fun _ _ _ _ _ => (pe_callTy (T := "str") call_str_int (by rfl) A.b_str (by decide +kernel) (pa_cons (pv 14) pa_nil))))) pa_nil))))) pa_nil)))
 (pss_cons (ps_if (PW.pt (pw_or (pt_cmpR op_ne (pc c_format_network hr (by decide) (pa_cons (pv 6) pa_nil)) (pv 9) (nomark _)) (pw_or1 (pt_cmpR op_ne (pc c_format_state hr (by decide) (pa_cons (pv 6) (pa_cons (pv 8) pa_nil))) (pv 7) (nomark _))))) (pss_one (ps_ret pe_bl)) pss_nil)
 (pss_cons (ps_if (PW.pt (pw_or (pt_not (pt_val (pc c_law_same hr (by decide) (pa_cons (pc c_parse_network hr (by decide) (pa_cons (pv 9) pa_nil)) (pa_cons (pv 6) pa_nil))))) (pw_or1 (pt_not (pt_val (pc c_law_same hr (by decide) (pa_cons (pc c_parse_state hr (by decide) (pa_cons (pv 6) (pa_cons (pv 7) pa_nil))) (pa_cons (pv 8) pa_nil)))))))) (pss_one (ps_ret pe_bl)) pss_nil)
 (pss_cons (ps_for PassesOwn.never rfl (pi_range1 (by rfl) A.b_range (pa_cons (pe_op op_add pe_int (pc c_law_drawn hr (by decide) (pa_cons (pv 1) (pa_cons pe_int pa_nil)))) pa_nil)) (pg_name (i := 3) sc_law.nd rfl (Or.inl rfl))
 (pss_one (ps_asg (pe_tup (pa_cons (pc c_law_changed hr (by decide) (pa_cons (pv 1) (pa_cons (pv 9) pa_nil))) (pa_cons (pc c_law_changed hr (by decide) (pa_cons (pv 1) (pa_cons (pv 7) pa_nil))) pa_nil))) (k_tg (K := K) (n := 2) rfl rfl (pgs_cons (pg_name (i := 9) sc_law.nd rfl (Or.inr rfl)) (pgs_cons (pg_name (i := 7) sc_law.nd rfl (Or.inr rfl)) pgs_nil))))))
 (pss_cons (ps_if (pt_not (pt_val (pc c_law_same hr (by decide) (pa_cons (pe_lam (qx := "law") A.d_law_outcome sc_law_outcome (fun _ _ _ _ _ _ us hl => match us, hl with | [_], _ => rfl) (fun _ _ => gives_law_outcome A Er hr) lo hr (sc := defScope s_law) (t := (fun E => tCall _ [] E (tCons (tVar 9) tNil))) fun _ _ _ _ _ _ _ hr => (pcX c_parse_network hr (by decide) (takes_of rfl rfl rfl rfl) (pa_cons (pv 9) pa_nil))) (pa_cons (pc c_law_network_of hr (by decide) (pa_cons (pv 9) pa_nil)) pa_nil))))) (pss_one (ps_ret pe_bl)) pss_nil)
 (pss_cons (ps_if (pt_not (pt_val (pc c_law_same hr (by decide) (pa_cons (pe_lamD (d := lamd_law_1) (t := (fun E => tCall _ [] E (tCons (tVar 6) (tCons (tVar 7) tNil)))) A.d_law_outcome sc_law_outcome (fun _ _ _ _ _ _ us hl => match us, hl with | [_], _ => rfl) (fun _ _ => gives_law_outcome A Er hr) ⟨(lamS_of (N := ["_law_script", "_law_state", "_law_turn", "_law_change", "_law_works", "_law_expected", "_law_network_here", "_law_other", "_law_position", "_law_text", "_law_seats", "_law_work", "_law_queue", "_law_place_here", "_law_one"]) (sc := defScope s_law) (by decide +kernel)), lbd_law_1, fun _ _ _ _ _ _ _ hr => (pcX c_parse_state hr (by decide) (takes_of rfl rfl rfl rfl) (pa_cons (pv 6) (pa_cons (pv 7) pa_nil)))⟩ hr (pe_lamV (sc := defScope s_law) lo (lamS_of (N := ["_law_script", "_law_state", "_law_turn", "_law_change", "_law_works", "_law_expected", "_law_network_here", "_law_other", "_law_position", "_law_text", "_law_seats", "_law_work", "_law_queue", "_law_place_here", "_law_one"]) (sc := defScope s_law) (by decide +kernel)) lbd_law_1)) (pa_cons (pc c_law_state_of hr (by decide) (pa_cons (pv 6) (pa_cons (pv 7) pa_nil))) pa_nil))))) (pss_one (ps_ret pe_bl)) pss_nil)
 (pss_cons (ps_set (i := 4) sc_law.nd rfl (Or.inl rfl) (pe_lst (pa_cons (pe_lamV (d := lam_law_0) (sc := defScope s_law) lo (lamS_of (N := ["_law_script", "_law_state", "_law_turn", "_law_change", "_law_works", "_law_expected", "_law_network_here", "_law_other", "_law_position", "_law_text", "_law_seats", "_law_work", "_law_queue", "_law_place_here", "_law_one"]) (sc := defScope s_law) (by decide +kernel)) lb_law_0) (pa_cons (pe_lamV (d := lam_law_1) (sc := defScope s_law) lo (lamS_of (N := ["_law_script", "_law_state", "_law_turn", "_law_change", "_law_works", "_law_expected", "_law_network_here", "_law_other", "_law_position", "_law_text", "_law_seats", "_law_work", "_law_queue", "_law_place_here", "_law_one"]) (sc := defScope s_law) (by decide +kernel)) lb_law_1) pa_nil))))
 (pss_cons (ps_set (i := 4) sc_law.nd rfl (Or.inl rfl) (pe_op op_cat (pv 4) (pe_lst (pa_cons (pe_lamV (d := lam_law_2) (sc := defScope s_law) lo (lamS_of (N := ["_law_script", "_law_state", "_law_turn", "_law_change", "_law_works", "_law_expected", "_law_network_here", "_law_other", "_law_position", "_law_text", "_law_seats", "_law_work", "_law_queue", "_law_place_here", "_law_one"]) (sc := defScope s_law) (by decide +kernel)) lb_law_2) (pa_cons (pe_lamV (d := lam_law_3) (sc := defScope s_law) lo (lamS_of (N := ["_law_script", "_law_state", "_law_turn", "_law_change", "_law_works", "_law_expected", "_law_network_here", "_law_other", "_law_position", "_law_text", "_law_seats", "_law_work", "_law_queue", "_law_place_here", "_law_one"]) (sc := defScope s_law) (by decide +kernel)) lb_law_3) pa_nil)))))
 (pss_cons (ps_set (i := 4) sc_law.nd rfl (Or.inl rfl) (pe_op op_cat (pv 4) (pe_lst (pa_cons (pe_lamV (d := lam_law_4) (sc := defScope s_law) lo (lamS_of (N := ["_law_script", "_law_state", "_law_turn", "_law_change", "_law_works", "_law_expected", "_law_network_here", "_law_other", "_law_position", "_law_text", "_law_seats", "_law_work", "_law_queue", "_law_place_here", "_law_one"]) (sc := defScope s_law) (by decide +kernel)) lb_law_4) pa_nil))))
 (pss_cons (ps_set (i := 4) sc_law.nd rfl (Or.inl rfl) (pe_op op_cat (pv 4) (pe_lst (pa_cons (pe_lamV (d := lam_law_5) (sc := defScope s_law) lo (lamS_of (N := ["_law_script", "_law_state", "_law_turn", "_law_change", "_law_works", "_law_expected", "_law_network_here", "_law_other", "_law_position", "_law_text", "_law_seats", "_law_work", "_law_queue", "_law_place_here", "_law_one"]) (sc := defScope s_law) (by decide +kernel)) lb_law_5) pa_nil))))
 (pss_cons (ps_set (i := 5) sc_law.nd rfl (Or.inl rfl) (pe_lst (pa_cons (pe_tup (pa_cons pe_str pa_nil)) (pa_cons (pe_tup (pa_cons pe_str (pa_cons pe_int (pa_cons (pe_op op_sub pe_int pe_int) pa_nil)))) (pa_cons (pe_tup (pa_cons pe_str (pa_cons pe_int (pa_cons pe_int pa_nil)))) (pa_cons (pe_tup (pa_cons pe_str (pa_cons pe_int (pa_cons pe_int pa_nil)))) pa_nil))))))
 (pss_cons (ps_set (i := 5) sc_law.nd rfl (Or.inl rfl) (pe_op op_cat (pv 5) (pe_lst (pa_cons (pe_tup (pa_cons pe_str (pa_cons pe_int pa_nil))) (pa_cons (pe_tup (pa_cons pe_str (pa_cons pe_int pa_nil))) pa_nil)))))
 (pss_one (ps_if (pt_cmpR (k_neD (K := K) rfl hu64) (pe_lcV rfl sc_law.nd (k_pl (K := K) rfl (pv 4)) (blkOk_by (own := [("_law_work", 11)]) (N := ["_law_script", "_law_state", "_law_turn", "_law_change", "_law_works", "_law_expected", "_law_network_here", "_law_other", "_law_position", "_law_text", "_law_seats", "_law_work", "_law_queue", "_law_place_here", "_law_one"]) (sc := defScope s_law) (by decide +kernel)) (fun _ _ _ _ _ => (pg_name (i := 11) sc_law.nd rfl (Or.inl rfl))) (fun _ _ _ _ _ _ _ bk => pe_callV (i := 11) bk A.d_law_outcome sc_law_outcome (fun _ _ _ _ _ _ us hl => match us, hl with | [_], _ => rfl) (fun _ _ => gives_law_outcome A Er hr) (.cons (d := lam_law_0) (t := (fun E => tCall _ [] E (tCons (tVar 6) (tCons (tTup (tCons (tC (.int 0)) (tCons (tOp (rIxT K) (tVar 8) (tC (.int 1))) tNil))) tNil)))) ⟨lamS_of (N := ["_law_script", "_law_state", "_law_turn", "_law_change", "_law_works", "_law_expected", "_law_network_here", "_law_other", "_law_position", "_law_text", "_law_seats", "_law_work", "_law_queue", "_law_place_here", "_law_one"]) (sc := defScope s_law) (by decide +kernel), lb_law_0, fun _ _ _ _ _ _ _ hr => (pcX c_format_state hr (by decide) (takes_of rfl rfl rfl rfl) (pa_cons (pv 6) (pa_cons (pe_tup (pa_cons pe_int (pa_cons (pe_ix (k_ixT (K := K) rfl) (pv 8) pe_int (fun _ _ => rfl)) pa_nil))) pa_nil)))⟩ (.cons (d := lam_law_1) (t := (fun E => tCall _ [] E (tCons (tTup (tCons (tTup tNil) tNil)) tNil))) ⟨lamS_of (N := ["_law_script", "_law_state", "_law_turn", "_law_change", "_law_works", "_law_expected", "_law_network_here", "_law_other", "_law_position", "_law_text", "_law_seats", "_law_work", "_law_queue", "_law_place_here", "_law_one"]) (sc := defScope s_law) (by decide +kernel), lb_law_1, fun _ _ _ _ _ _ _ hr => (pcX c_format_network hr (by decide) (takes_of rfl rfl rfl rfl) (pa_cons (pe_tup (pa_cons (pe_tup pa_nil) pa_nil)) pa_nil))⟩ (.cons (d := lam_law_2) (t := (fun E => tCall _ [] E (tCons (tTup (tCons (tTup (tCons (tC (.int 0)) tNil)) tNil)) (tCons (tC (.str "x")) tNil)))) ⟨lamS_of (N := ["_law_script", "_law_state", "_law_turn", "_law_change", "_law_works", "_law_expected", "_law_network_here", "_law_other", "_law_position", "_law_text", "_law_seats", "_law_work", "_law_queue", "_law_place_here", "_law_one"]) (sc := defScope s_law) (by decide +kernel), lb_law_2, fun _ _ _ _ _ _ _ hr => (pcX c_parse_state hr (by decide) (takes_of rfl rfl rfl rfl) (pa_cons (pe_tup (pa_cons (pe_tup (pa_cons pe_int pa_nil)) pa_nil)) (pa_cons pe_str pa_nil)))⟩ (.cons (d := lam_law_3) (t := (fun E => tCall _ [] E (tCons (tC (.str "toolongone")) tNil))) ⟨lamS_of (N := ["_law_script", "_law_state", "_law_turn", "_law_change", "_law_works", "_law_expected", "_law_network_here", "_law_other", "_law_position", "_law_text", "_law_seats", "_law_work", "_law_queue", "_law_place_here", "_law_one"]) (sc := defScope s_law) (by decide +kernel), lb_law_3, fun _ _ _ _ _ _ _ hr => (pcX c_parse_network hr (by decide) (takes_of rfl rfl rfl rfl) (pa_cons pe_str pa_nil))⟩ (.cons (d := lam_law_4) (t := (fun E => tCall _ [] E (tCons (tTup (tCons (tTup (tCons (tC (.str "a")) tNil)) tNil)) (tCons (tC (.str "next 1
queue
")) tNil)))) ⟨lamS_of (N := ["_law_script", "_law_state", "_law_turn", "_law_change", "_law_works", "_law_expected", "_law_network_here", "_law_other", "_law_position", "_law_text", "_law_seats", "_law_work", "_law_queue", "_law_place_here", "_law_one"]) (sc := defScope s_law) (by decide +kernel), lb_law_4, fun _ _ _ _ _ _ _ hr => (pcX c_parse_state hr (by decide) (takes_of rfl rfl rfl rfl) (pa_cons (pe_tup (pa_cons (pe_tup (pa_cons pe_str pa_nil)) pa_nil)) (pa_cons pe_str pa_nil)))⟩ (.cons (d := lam_law_5) (t := (fun E => tCall _ [] E (tCons (tTup (tCons (tTup (tCons (tC (.str "a")) tNil)) tNil)) (tCons (tC (.str "next 1 1
queue")) tNil)))) ⟨lamS_of (N := ["_law_script", "_law_state", "_law_turn", "_law_change", "_law_works", "_law_expected", "_law_network_here", "_law_other", "_law_position", "_law_text", "_law_seats", "_law_work", "_law_queue", "_law_place_here", "_law_one"]) (sc := defScope s_law) (by decide +kernel), lb_law_5, fun _ _ _ _ _ _ _ hr => (pcX c_parse_state hr (by decide) (takes_of rfl rfl rfl rfl) (pa_cons (pe_tup (pa_cons (pe_tup (pa_cons pe_str pa_nil)) pa_nil)) (pa_cons pe_str pa_nil)))⟩ .nil)))))) hr rfl (Or.inl rfl))) (pv 5) (nomark _)) (pss_one (ps_ret pe_bl)) pss_nil)))))))))))))))))))
 (pss_one (ps_ret pe_bl)))), ?_⟩
    have st : Stt [] H0 [] [] H0 := Stt.init H0
    walk_at "begin"
    refine ⟨a, ns, rfl, hs, fun h m H nh e hh => ?_⟩
    have hS : SrcOk K [] (Fb.noT H0) h a := Scr.first (SqL.noT hs) hl (noT_none nh)
    have st : Stt [] (Fb.noT H0) (dL h a 0 m 0 []) [fun H => LamX.Tabs tabT H] H := (st.noT.know (φ := fun H => LamX.Tabs tabT H) tabs Pers.tabs).fresh nh e hh trivial
    walk_at "go"
    refine ⟨_, rfl, by decide, by decide, ForIt.go walk_range (fun t σ H => ∃ s2 s3 s4 s5 s6 s7 s8 s9 s10 s11 s12 s13 s14 i m r, σ = [some (.ref a), some (.ref h), s2, s3, s4, s5, s6, s7, s8, s9, s10, s11, s12, s13, s14] ∧ Stt [] (Fb.noT H0) (dL h a i m r []) [fun H => LamX.Tabs tabT H] H) ⟨_, _, _, _, _, _, _, _, _, _, _, _, _, 0, m, 0, rfl, st⟩ (fun _ _ _ _ _ => trivial) ?_ ?_⟩
    · clear st
      rintro t v σ H H' ht ⟨s2, s3, s4, s5, s6, s7, s8, s9, s10, s11, s12, s13, s14, i, m, r, rfl, st⟩ ⟨rfl, rfl⟩
      walk_at "go"
      refine ⟨h, a, 6, rfl, st.dr hS, by decide, by decide, fun nv net H hn ok hp5 hnl e d => ?_⟩
      obtain ⟨i, m, r, st⟩ := st.drn e d
      have st := st.know (φ := fun H => Dt K H nv (netD net)) hn Pers.dt
      have h6 : net.length ≤ 6 := by omega
      walk_at "go"
      refine ⟨h, a, nv, net, rfl, st.dr hS, st.pers 1 rfl, ok, fun sv n qs H hsv so hn10 e d => ?_⟩
      obtain ⟨i, m, r, st⟩ := st.drn e d
      have st := st.know (φ := fun H => Dt K H sv (stD n qs)) hsv Pers.dt
      obtain ⟨sm, hB⟩ := so.smq ok
      have hw := net_words ok
      have hws := st_words ok so hn10
      have h1n := so.one
      have hql := so.len
      -- the network's text
      obtain ⟨na, xs, rfl, hna, hxs⟩ := (st.pers 1 rfl : Dt K _ nv (netD net)).tup_inv
      have hxl : xs.length = net.length := by rw [hxs.len, List.length_map]
      obtain ⟨sa, qa, xq, rfl, hsa, hqa, hxq⟩ := st_inv (st.pers 2 rfl : Dt K _ sv (stD n qs))
      have hxql : xq.length = qs.length := by rw [hxq.len, List.length_map]
      have st := ((((st.know (φ := fun H => TupAt K H na xs) hna Pers.tup).know (φ := fun H => DtAll K H xs (net.map seatsD)) hxs Pers.all).know (φ := fun H => TupAt K H sa [.int n, .ref qa]) hsa Pers.tup).know (φ := fun H => TupAt K H qa xq) hqa Pers.tup).know (φ := fun H => DtAll K H xq (qs.map intsD)) hxq Pers.all
      walk_at "go"
      try dsimp only [List.set_cons_zero, List.set_cons_succ]
      refine i_tyX ?_
      walk_at "go"
      refine ⟨na, rfl, ⟨_, (st.pers 3 rfl : TupAt K _ na xs).sq⟩, LcIt.map (walk_tup (xs := xs)) (((net.map rowT).map S).map V.str) (by simp [hxl]) (sz_lt (by omega)) (fun H2 e2 => ((st.ext e2).pers 3 rfl : TupAt K _ na xs).sq) ?_ ?_⟩
      · rintro i v y H2 H3 N hi hy e2 ⟨rfl, hx⟩ hN
        have st := st.ext e2
        obtain ⟨seats, sa, hse, rfl, hsa⟩ := net_at (st.pers 4 rfl : DtAll K _ xs (net.map seatsD)) hx
        obtain rfl : V.str (S (rowT seats)) = y := by
          rw [List.getElem?_map, List.getElem?_map, List.getElem?_map, hse] at hy
          exact Option.some.inj hy
        have st := st.know (φ := fun H => TupAt K H sa (seats.map kV)) hsa Pers.tup
        have hsz := ok.size i seats hse
        have hwr := hw _ (List.mem_map.mpr ⟨seats, List.mem_of_getElem? hse, rfl⟩)
        walk_at "go"
        refine ⟨rfl, ?_⟩
        walk_at "go"
        refine i_tyX ?_
        walk_at "go"
        refine ⟨sa, rfl, ⟨_, (st.pers 8 rfl : TupAt K _ sa _).sq⟩, LcIt.map (walk_tup (xs := seats.map kV)) (((seats.map keyT).map S).map V.str) (by simp) (sz_lt (by rw [List.length_map]; omega)) (fun H4 e4 => ((st.ext e4).pers 8 rfl : TupAt K _ sa _).sq) ?_ ?_⟩
        · rintro q v y H4 H5 N2 hq hy e4 ⟨rfl, hx⟩ hN2
          rw [List.getElem?_map] at hx
          cases hk : seats[q]? with
          | none => rw [hk] at hx; cases hx
          | some ky =>
            rw [hk] at hx
            obtain rfl := Option.some.inj hx
            obtain rfl : V.str (S (keyT ky)) = y := by
              rw [List.getElem?_map, List.getElem?_map, List.getElem?_map, hk] at hy
              exact Option.some.inj hy
            walk_at "go"
            refine ⟨rfl, ?_⟩
            walk_at "go"
            exact ⟨ky, rfl, numK_plc (ok.plc i seats ky hse (List.mem_of_getElem? hk)) ok.le, hN2 _ (Same.refl _)⟩
        · intro D H4 nD e4 hD
          walk_at "go"
          refine i_joinS 8 z_sp (SqL.of hD) (fun r hr => (hwr.2 r hr).len) ?_ ?_
          · have := hwr.1.2
            have := Nat.mul_le_mul_right (8 + [32].length) this
            show _ * (8 + 1) ≤ _
            simp only [List.length_cons, List.length_nil] at this
            omega
          · rw [SX.join_S]
            exact hN _ e4
      intro D H2 nD e2 hD
      have st := st.ext e2
      walk_at "go"
      refine i_joinS 72 z_nl (SqL.of hD) (fun r hr => ?_) ?_ ?_
      · obtain ⟨seats, hs, rfl⟩ := List.mem_map.mp hr
        have hwr := hw _ (List.mem_map.mpr ⟨seats, hs, rfl⟩)
        exact row_len8 hwr.2 hwr.1.2
      · rw [List.length_map]
        have := Nat.mul_le_mul_right (72 + [10].length) h6
        simp only [List.length_cons, List.length_nil] at this ⊢
        omega
      rw [SX.join_S]
      have etx : TL.joinL [10] (net.map rowT) = netT net := rfl
      rw [etx]
      -- the state's text
      walk_at "go"
      refine i_ixT (xs := [.int n, .ref qa]) (v := .int n) (st.pers 5 rfl : TupAt K _ sa _).sq rfl ?_
      walk_at "go"
      refine ⟨n, rfl, num_log (by omega) hn10, ?_⟩
      have en : Str.ofString (toString n) = S (numT n) := str_num (by omega)
      rw [en]
      have e0 : ("next " : Str) = S (nextL ++ [32]) := by decide +kernel
      rw [e0]
      have hnl : (numT n).length ≤ 22 := (numT_wd hn10).len
      refine i_addS (by rw [List.length_append]; simp only [nextL, List.length_cons, List.length_nil]; omega) ?_
      rw [SX.S_cat]
      have e1 : nextL ++ [32] ++ numT n = TL.joinL [32] [nextL, numT n] := by rw [joinL_cons2, List.append_assoc]; rfl
      rw [e1]
      have hst : (stW n qs).map (fun ws => TL.joinL [32] ws) = TL.joinL [32] [nextL, numT n] :: (qs.map quW).map (fun ws => TL.joinL [32] ws) := rfl
      generalize TL.joinL [32] [nextL, numT n] = l0 at hst
      refine st_newL st (by simp) fun sl nsl st => ?_
      walk_at "go"
      try dsimp only [List.set_cons_zero, List.set_cons_succ]
      refine i_tyX ?_
      walk_at "go"
      refine i_ixT (xs := [.int n, .ref qa]) (v := .ref qa) (st.pers 5 rfl : TupAt K _ sa _).sq rfl ?_
      refine ⟨qa, rfl, ⟨_, (st.pers 6 rfl : TupAt K _ qa _).sq⟩, LcIt.map (walk_tup (xs := xq)) ((((qs.map quW).map fun ws => TL.joinL [32] ws).map S).map V.str) (by simp [hxql]) (sz_lt (by omega)) (fun H2 e2 => ((st.ext e2).pers 6 rfl : TupAt K _ qa xq).sq) ?_ ?_⟩
      · rintro j v y H2 H3 N hi hy e2 ⟨rfl, hx1⟩ hN
        have st := st.ext e2
        obtain ⟨q, q1, hqj, rfl, hq1⟩ := qs_at (st.pers 7 rfl : DtAll K _ xq (qs.map intsD)) hx1
        obtain rfl : V.str (S (TL.joinL [32] (quW q))) = y := by
          rw [List.getElem?_map, List.getElem?_map, List.getElem?_map, List.getElem?_map, hqj] at hy
          exact Option.some.inj hy
        have hqm := List.mem_of_getElem? hqj
        have hwr := hws (quW q) (List.mem_cons_of_mem _ (List.mem_map.mpr ⟨q, hqm, rfl⟩))
        have hq7 : q.length ≤ 7 := by have := hwr.1.2; simp only [quW, List.length_cons, List.length_map] at this; omega
        have st := st.know (φ := fun H => TupAt K H q1 (iV q)) hq1 Pers.tup
        have st := (Stt.init H3).know (φ := fun H => TupAt K H q1 (iV q)) hq1 Pers.tup
        walk_at "go"
        refine ⟨rfl, ?_⟩
        walk_at "go"
        refine i_tyX ?_
        walk_at "go"
        refine st_newL st (by simp) fun kl nkl st => ?_
        walk_at "go"
        refine ⟨q1, rfl, ⟨_, (st.pers 0 rfl : TupAt K _ q1 _).sq⟩, LcIt.map (walk_tup (xs := iV q)) (((q.map numT).map S).map V.str) (by simp [iV]) (sz_lt (by rw [iV_len]; omega)) (fun H4 e4 => ((st.ext e4).pers 0 rfl : TupAt K _ q1 _).sq) ?_ ?_⟩
        · rintro m v y H4 H5 N2 hm hy e4 ⟨rfl, hx⟩ hN2
          have hx : (q.map V.int)[m]? = some v := hx
          rw [List.getElem?_map] at hx
          cases hk : q[m]? with
          | none => rw [hk] at hx; cases hx
          | some p =>
            rw [hk] at hx
            obtain rfl := Option.some.inj hx
            obtain rfl : V.str (S (numT p)) = y := by
              rw [List.getElem?_map, List.getElem?_map, List.getElem?_map, hk] at hy
              exact Option.some.inj hy
            have hpr := so.rng p (List.mem_flatten.mpr ⟨q, hqm, List.mem_of_getElem? hk⟩)
            walk_at "go"
            refine ⟨rfl, ?_⟩
            walk_at "go"
            refine ⟨p, rfl, num_log (by omega) (by omega), ?_⟩
            have en : Str.ofString (toString p) = S (numT p) := str_num (by omega)
            rw [en]
            exact hN2 _ (Same.refl _)
        · intro D H4 nD e4 hD
          have st := st.fresh nD e4 hD trivial
          refine st_cat st (st.at 0 rfl) (st.at 1 rfl) (by simp; omega) fun p H5 np e5 st => ?_
          walk_at "go"
          have ew : [V.str "queue"] ++ ((q.map numT).map S).map V.str = ((quW q).map S).map V.str := by rw [z_queue]; rfl
          rw [ew] at st
          refine i_joinS 22 z_sp (st.sqL 2 rfl) (fun r hr => (hwr.2 r hr).len) ?_ ?_
          · have := Nat.mul_le_mul_right (22 + [32].length) hwr.1.2
            simp only [List.length_cons, List.length_nil] at this ⊢
            omega
          · rw [SX.join_S]
            exact hN _ st.same
      intro D H2 nD e2 hD
      have st := st.fresh nD e2 hD trivial
      refine st_cat st (st.at 1 rfl) (st.at 2 rfl) (by simp; omega) fun p H3 np e3 st => ?_
      walk_at "go"
      have ew : [V.str (S l0)] ++ (((qs.map quW).map fun ws => TL.joinL [32] ws).map S).map V.str = (((stW n qs).map fun ws => TL.joinL [32] ws).map S).map V.str := by rw [hst]; rfl
      rw [ew] at st
      refine i_joinS 184 z_nl (st.sqL 3 rfl) (fun r hr => ?_) ?_ ?_
      · obtain ⟨ws, hw2, rfl⟩ := List.mem_map.mp hr
        exact row_len8 (hws ws hw2).2 (hws ws hw2).1.2
      · have : ((stW n qs).map fun ws => TL.joinL [32] ws).length ≤ 41 := by simp [stW]; omega
        have := Nat.mul_le_mul_right (184 + [10].length) this
        simp only [List.length_cons, List.length_nil] at this ⊢
        omega
      rw [SX.join_S]
      have eto : TL.joinL [10] ((stW n qs).map fun ws => TL.joinL [32] ws) = stT n qs := rfl
      rw [eto]
      have st := (st.picks [0] (by decide) (L' := dL h a i m r []) rfl).only (P' := [fun H => LamX.Tabs tabT H, fun H => Dt K H (.ref na) (netD net), fun H => Dt K H (.ref sa) (stD n qs), fun H => TupAt K H sa [.int n, .ref qa], fun H => TupAt K H qa xq, fun H => DtAll K H xq (qs.map intsD)]) [0, 1, 2, 5, 6, 7] rfl
      clear hna hxs hxl hsa hqa hxq ew hst etx eto e0 e1 en hnl
      -- written, and read back
      have tbn := TB.net ok h6
      have tbs := TB.st ok so hn10 h6
      have txn := tbn.ok (by decide) (by decide) (by decide)
      have txs := tbs.ok (by decide) (by decide) (by decide)
      walk_at "go"
      try dsimp only [List.set_cons_zero, List.set_cons_succ]
      refine ⟨_, net, rfl, st.pers 1 rfl, net_wild ok, by omega, .inl ⟨ok, fun H1 e => ?_⟩⟩
      have st := st.ext e
      walk_at "go"
      refine ne_self ?_
      walk_at "go"
      refine ⟨_, _, net, n, qs, 8, rfl, st.pers 1 rfl, st.pers 2 rfl, ok, sm, hB, .inl ⟨so, hn10, fun H1 e => ?_⟩⟩
      have st := st.ext e
      walk_at "go"
      refine ne_self ?_
      walk_at "go"
      obtain ⟨nb1, nb2⟩ := netT_back ok
      refine ⟨netT net, rfl, txn, ?_⟩
      rw [nb1]
      dsimp only
      rw [nb2]
      refine ⟨fun _ v1 H1 e hv1 => ?_, fun st se hb => by rw [bad_ok ok] at hb; cases hb⟩
      have st := (st.ext e).know (φ := fun H => Dt K H v1 (netD net)) hv1 Pers.dt
      have l9 : ∀ q ∈ net, q.length ≤ 90000 := fun q hq => by
        obtain ⟨j, hj⟩ := List.getElem?_of_mem hq
        have := (ok.size j q hj).2
        omega
      have q9 : ∀ q ∈ qs, q.length ≤ 90000 := fun q hq => by have := sm.q q hq; omega
      walk_at "go"
      refine ⟨v1, _, rfl, al_net (n := 2) (st.pers 6 rfl) (st.pers 1 rfl) (by omega) l9, fun H1 e => ?_⟩
      have st := st.ext e
      refine ⟨_, rfl, iteF ?_⟩
      walk_at "go"
      refine ⟨_, net, stT n qs, rfl, st.pers 1 rfl, net_wild ok, h6, txs, .inl ⟨ok, ?_⟩⟩
      rw [stT_back ok so hn10]
      refine ⟨fun _ v2 H1 e hv2 => ?_, fun nso => absurd so nso⟩
      have st := (st.ext e).know (φ := fun H => Dt K H v2 (stD n qs)) hv2 Pers.dt
      walk_at "go"
      refine ⟨v2, _, rfl, al_st (n := 1) (st.pers 7 rfl) (st.pers 2 rfl) q9 (by omega), fun H1 e => ?_⟩
      have st := (st.ext e).only (P' := [fun H => LamX.Tabs tabT H, fun H => Dt K H (.ref na) (netD net), fun H => Dt K H (.ref sa) (stD n qs), fun H => TupAt K H sa [.int n, .ref qa], fun H => TupAt K H qa xq, fun H => DtAll K H xq (qs.map intsD)]) [0, 1, 2, 3, 4, 5] rfl
      refine ⟨_, rfl, iteF ?_⟩
      -- changed
      walk_at "go"
      refine st_drawn st hS (by decide) (by decide) fun x i m r H x0 x1 st => ?_
      walk_at "go"
      try dsimp only [List.set_cons_zero, List.set_cons_succ]
      refine ⟨_, rfl, by omega, by omega, ForIt.go walk_range (fun j σ H => ∃ s3 l1 l2 i m r, σ = [some (.ref a), some (.ref h), some (.int (0 + (t : Int))), s3, s4, s5, some (.ref na), some (.str (S l2)), some (.ref sa), some (.str (S l1)), s10, s11, s12, s13, s14] ∧ TB (23 * 2 ^ j - 1) (9 * 2 ^ j - 1) (7 + 2 * j) l1 ∧ TB (23 * 2 ^ j - 1) (9 * 2 ^ j - 1) (7 + 2 * j) l2 ∧ Stt [] (Fb.noT H0) (dL h a i m r []) [fun H => LamX.Tabs tabT H, fun H => Dt K H (.ref na) (netD net), fun H => Dt K H (.ref sa) (stD n qs), fun H => TupAt K H sa [.int n, .ref qa], fun H => TupAt K H qa xq, fun H => DtAll K H xq (qs.map intsD)] H) ⟨_, _, _, i, m, r, rfl, tbn.mono (by decide) (by decide) (by decide), tbs.mono (by decide) (by decide) (by decide), st⟩ (fun _ _ _ _ _ => trivial) ?_ ?_⟩
      · clear st
        rintro j v σ H H' hj ⟨s3, l1, l2, i, m, r, rfl, t1, t2, st⟩ ⟨rfl, rfl⟩
        have hj : j ≤ 1 := by omega
        have b1 : 23 * 2 ^ j - 1 ≤ 49 ∧ 9 * 2 ^ j - 1 ≤ 24 ∧ 7 + 2 * j ≤ 13 ∧ 2 * (23 * 2 ^ j - 1) + 1 ≤ 23 * 2 ^ (j + 1) - 1 ∧ 2 * (9 * 2 ^ j - 1) + 1 ≤ 9 * 2 ^ (j + 1) - 1 ∧ 7 + 2 * j + 2 ≤ 7 + 2 * (j + 1) := by
          obtain rfl | rfl : j = 0 ∨ j = 1 := by omega
          · decide
          · decide
        obtain ⟨b1, b2, b3, b4, b5, b6⟩ := b1
        walk_at "go"
        refine ⟨h, a, l1, _, _, _, rfl, st.dr hS, t1, b1, b2, b3, fun l1' H1 e d t1' => ?_⟩
        obtain ⟨i, m, r, st⟩ := st.drn e d
        walk_at "go"
        refine ⟨h, a, l2, _, _, _, rfl, st.dr hS, t2, b1, b2, b3, fun l2' H2 e d t2' => ?_⟩
        obtain ⟨i, m, r, st⟩ := st.drn e d
        walk_at "go"
        refine ⟨sz_of (by simp), fun tp ntp => ?_⟩
        have st := st.ext (Same.new (o := .tup [.str (S l1'), .str (S l2')]) ntp)
        refine i_gtup (xs := [.str (S l1'), .str (S l2')]) (SqT.of upd_same) rfl ?_
        walk_at "go"
        exact ⟨_, l1', l2', i, m, r, rfl, t1'.mono b4 b5 b6, t2'.mono b4 b5 b6, st⟩
      clear st
      rintro σ H ⟨s3, l1, l2, i, m, r, rfl, t1, t2, st⟩
      have hx2 : (1 + x).toNat ≤ 2 := by omega
      have b2 : ∀ j, j ≤ 2 → 23 * 2 ^ j - 1 ≤ 100 ∧ 9 * 2 ^ j - 1 ≤ 50 ∧ 7 + 2 * j ≤ 15 := by
        intro j hj
        obtain rfl | rfl | rfl : j = 0 ∨ j = 1 ∨ j = 2 := by omega
        · decide
        · decide
        · decide
      obtain ⟨b3, b4, b5⟩ := b2 _ hx2
      have tx1 := t1.ok b3 b4 b5
      have tx2 := t2.ok b3 b4 b5
      clear t1 t2 b2 b3 b4 b5
      walk_at "go"
      refine i_lam ⟨st.pers 0 rfl, fun H1 e1 t1 => i_tout ?_⟩
      have st := st.lam e1 t1
      walk_at "go"
      refine out_pnet tx1 rfl rfl fun v H2 e2 hv => ?_
      have st := (st.ext e2).know (φ := fun H => Dt K H v (dN l1)) hv Pers.dt
      walk_at "go"
      refine ⟨l1, rfl, tx1, fun v2 H3 e3 hv2 => ?_⟩
      have st := st.ext e3
      refine ⟨v, v2, rfl, al_dN tx1 (st.pers 6 rfl) hv2, fun H4 e4 => ?_⟩
      have st := (st.ext e4).only (P' := [fun H => LamX.Tabs tabT H, fun H => Dt K H (.ref na) (netD net), fun H => Dt K H (.ref sa) (stD n qs), fun H => TupAt K H sa [.int n, .ref qa], fun H => TupAt K H qa xq, fun H => DtAll K H xq (qs.map intsD)]) [0, 1, 2, 3, 4, 5] rfl
      refine ⟨_, rfl, iteF ?_⟩
      walk_at "go"
      refine i_lamD ⟨st.pers 0 rfl, fun f1 H1 e1 t1 hL => i_tout ⟨hL, ?_⟩⟩
      have st := st.lam e1 t1
      walk_at "go"
      refine out_pst (st.pers 1 rfl) ok h6 tx2 rfl rfl fun v H2 e2 hv => ?_
      have st := (st.ext e2).know (φ := RSt K net l2 v) hv Pers.rst
      walk_at "go"
      refine ⟨_, net, l2, rfl, st.pers 1 rfl, ok, h6, tx2, fun v2 H3 e3 hv2 => ?_⟩
      have st := st.ext e3
      refine ⟨v, v2, rfl, al_rst ok (st.pers 6 rfl : RSt K net l2 v _) hv2, fun H4 e4 => ?_⟩
      have st := (st.ext e4).only (P' := [fun H => LamX.Tabs tabT H, fun H => Dt K H (.ref na) (netD net), fun H => Dt K H (.ref sa) (stD n qs), fun H => TupAt K H sa [.int n, .ref qa], fun H => TupAt K H qa xq, fun H => DtAll K H xq (qs.map intsD)]) [0, 1, 2, 3, 4, 5] rfl
      refine ⟨_, rfl, iteF ?_⟩
      clear tx1 tx2 tbn tbs txn txs nb1 nb2
      -- what is wrong
      walk_at "go"
      refine i_lamV ⟨st.pers 0 rfl, fun f0 H1 e1 t1 a0 => ?_⟩
      have st := (st.lam e1 t1).know a0 Pers.lamAt
      walk_at "go"
      refine i_lamV ⟨st.pers 0 rfl, fun f1 H1 e1 t1 a0 => ?_⟩
      have st := (st.lam e1 t1).know a0 Pers.lamAt
      walk_at "go"
      refine st_newL st (by simp) fun w1 nw1 st => ?_
      walk_at "go"
      refine i_lamV ⟨st.pers 0 rfl, fun f2 H1 e1 t1 a0 => ?_⟩
      have st := (st.lam e1 t1).know a0 Pers.lamAt
      walk_at "go"
      refine i_lamV ⟨st.pers 0 rfl, fun f3 H1 e1 t1 a0 => ?_⟩
      have st := (st.lam e1 t1).know a0 Pers.lamAt
      walk_at "go"
      refine st_newL st (by simp) fun w2 nw2 st => ?_
      refine st_cat st (st.at 1 rfl) (st.at 2 rfl) (by simp) fun w3 H1 nw3 e st => ?_
      have st := st.picks [0, 3] (by decide) (L' := dL h a i m r [(w3, .lst [.ref f0, .ref f1, .ref f2, .ref f3])]) rfl
      walk_at "go"
      refine i_lamV ⟨st.pers 0 rfl, fun f4 H1 e1 t1 a0 => ?_⟩
      have st := (st.lam e1 t1).know a0 Pers.lamAt
      walk_at "go"
      refine st_newL st (by simp) fun w4 nw4 st => ?_
      refine st_cat st (st.at 1 rfl) (st.at 2 rfl) (by simp) fun w5 H1 nw5 e st => ?_
      have st := st.picks [0, 3] (by decide) (L' := dL h a i m r [(w5, .lst [.ref f0, .ref f1, .ref f2, .ref f3, .ref f4])]) rfl
      walk_at "go"
      refine i_lamV ⟨st.pers 0 rfl, fun f5 H1 e1 t1 a0 => ?_⟩
      have st := (st.lam e1 t1).know a0 Pers.lamAt
      walk_at "go"
      refine st_newL st (by simp) fun w6 nw6 st => ?_
      refine st_cat st (st.at 1 rfl) (st.at 2 rfl) (by simp) fun wl H1 nwl e st => ?_
      have st := st.picks [0, 3] (by decide) (L' := dL h a i m r [(wl, .lst [.ref f0, .ref f1, .ref f2, .ref f3, .ref f4, .ref f5])]) rfl
      walk_at "go"
      try dsimp only [List.set_cons_zero, List.set_cons_succ]
      refine st_newT K st (by simp) fun t1 nt1 st => ?_
      walk_at "go"
      refine st_newT K st (by simp) fun t2 nt2 st => ?_
      walk_at "go"
      refine st_newT K st (by simp) fun t3 nt3 st => ?_
      walk_at "go"
      refine st_newT K st (by simp) fun t4 nt4 st => ?_
      walk_at "go"
      refine st_newL st (by simp) fun xl nxl st => ?_
      walk_at "go"
      refine st_newT K st (by simp) fun t5 nt5 st => ?_
      walk_at "go"
      refine st_newT K st (by simp) fun t6 nt6 st => ?_
      walk_at "go"
      refine st_newL st (by simp) fun x2 nx2 st => ?_
      refine st_cat st (st.at 2 rfl) (st.at 3 rfl) (by simp) fun zl H1 nzl e st => ?_
      have st := st.picks [0, 1, 4] (by decide) (L' := dL h a i m r [(wl, .lst [.ref f0, .ref f1, .ref f2, .ref f3, .ref f4, .ref f5]), (zl, .lst [.ref t1, .ref t2, .ref t3, .ref t4, .ref t5, .ref t6])]) rfl
      walk_at "go"
      try dsimp only [List.set_cons_zero, List.set_cons_succ]
      refine i_lcV ?_
      walk_at "go"
      refine ⟨wl, rfl, ⟨_, st.sqL 1 rfl⟩, ?_⟩
      refine works_go2 (os := [.tuple [.str "InvalidState"], .tuple [.str "InvalidNetwork", .int 0, .int (-1)], .tuple [.str "InvalidNetwork", .int 0, .int 0], .tuple [.str "InvalidNetwork", .int 0, .int 0], .tuple [.str "InvalidText", .int 2], .tuple [.str "InvalidText", .int 0]]) (fs := [f0, f1, f2, f3, f4, f5]) st 1 rfl (by simp) (.cons ?_ (.cons ?_ (.cons ?_ (.cons ?_ (.cons ?_ (.cons ?_ .nil)))))) (show 11 < 15 by decide) fun D vs H2 st hvs => ?_
      · refine ⟨0, _, _, rfl, List.mem_of_getElem? (i := 6) rfl, fun H Q st k => i_tout ?_⟩
        walk_at "go"
        have s0 : Stt [] H [] [] H := Stt.init H
        have s0 := ((s0.know (φ := fun H => Dt K H (.ref na) (netD net)) (st.pers 1 rfl) Pers.dt).know (φ := fun H => TupAt K H qa xq) (st.pers 4 rfl) Pers.tup).know (φ := fun H => DtAll K H xq (qs.map intsD)) (st.pers 5 rfl) Pers.all
        refine i_ixT (xs := [.int n, .ref qa]) (v := .ref qa) (st.pers 3 rfl : TupAt K _ sa _).sq rfl ?_
        clear st
        walk_at "go"
        refine st_newT K s0 (by simp) fun q1 nq1 s0 => ?_
        walk_at "go"
        exact ⟨_, .ref q1, net, 0, qs, 8, rfl, s0.pers 0 rfl, .tup (s0.pers 3 rfl) (.cons (.int _) (.cons (.tup (s0.pers 1 rfl) (s0.pers 2 rfl)) .nil)), ok, sm, hB, .inr ⟨fun so0 => absurd so0.one (by decide), fun H3 e3 => out_w2 (j := 7) rfl rfl rfl rfl k (s0.same.trans e3)⟩⟩
      · refine ⟨1, _, _, rfl, List.mem_of_getElem? (i := 7) rfl, fun H Q st k => i_tout ?_⟩
        walk_at "go"
        have s0 : Stt [] H [] [] H := Stt.init H
        clear st
        refine st_newT K s0 (by simp) fun q1 nq1 s0 => ?_
        walk_at "go"
        refine st_newT K s0 (by simp) fun q2 nq2 s0 => ?_
        walk_at "go"
        refine ⟨.ref q2, [[]], rfl, .tup (s0.pers 1 rfl) (.cons (.tup (s0.pers 0 rfl) .nil) .nil), fun j seats hj => ?_, by simp, .inr ⟨0, -1, by decide +kernel, fun d H1 e nd => out_net2 rfl rfl k (s0.same.trans e) nd⟩⟩
        cases j with
        | zero =>
          obtain rfl := Option.some.inj hj
          exact ⟨fun k hk => absurd hk List.not_mem_nil, by simp⟩
        | succ j => cases hj
      · refine ⟨2, _, _, rfl, List.mem_of_getElem? (i := 8) rfl, fun H Q st k => i_tout ?_⟩
        walk_at "go"
        have s0 : Stt [] H [] [] H := Stt.init H
        clear st
        refine st_newT K s0 (by simp) fun q1 nq1 s0 => ?_
        walk_at "go"
        refine st_newT K s0 (by simp) fun q2 nq2 s0 => ?_
        walk_at "go"
        rw [z_x]
        refine ⟨.ref q2, [[.inl 0]], litX, rfl, .tup (s0.pers 1 rfl) (.cons (.tup (s0.pers 0 rfl) (.cons (.int _) .nil)) .nil), fun j seats hj => ?_, by simp, TxOk.lit (by decide) (by decide) (by decide), .inr ⟨0, 0, by decide +kernel, fun d H1 e nd => out_net2 rfl rfl k (s0.same.trans e) nd⟩⟩
        cases j with
        | zero =>
          obtain rfl := Option.some.inj hj
          exact ⟨fun k hk => by rw [List.mem_singleton.mp hk]; trivial, by simp⟩
        | succ j => cases hj
      · refine ⟨3, _, _, rfl, List.mem_of_getElem? (i := 9) rfl, fun H Q st k => i_tout ?_⟩
        walk_at "go"
        rw [z_long]
        refine out_pnet (TxOk.lit (by decide) (by decide) (by decide)) rfl rfl fun v H1 e1 hv => k v H1 e1 ?_
        unfold dN at hv
        rw [long_none] at hv
        dsimp only at hv
        rw [long_bad] at hv
        exact hv
      · refine ⟨4, _, _, rfl, List.mem_of_getElem? (i := 10) rfl, fun H Q st k => i_tout ?_⟩
        walk_at "go"
        have s0 : Stt [] H [] [] H := Stt.init H
        clear st
        refine st_newT K s0 (by simp) fun q1 nq1 s0 => ?_
        walk_at "go"
        refine st_newT K s0 (by simp) fun q2 nq2 s0 => ?_
        walk_at "go"
        rw [z_q2]
        refine out_pst (net := [[.inr "a"]]) (.tup (s0.pers 1 rfl) (.cons (.tup (s0.pers 0 rfl) (.cons (.str _) .nil)) .nil)) netOk_a (by decide) (TxOk.lit (by decide) (by decide) (by decide)) rfl rfl fun v H1 e1 hv => k v H1 (s0.same.trans e1) ?_
        unfold RSt at hv
        rw [show ([[.inr "a"]] : List (List Key)).length = 1 from rfl, q2_st] at hv
        exact hv
      · refine ⟨5, _, _, rfl, List.mem_of_getElem? (i := 11) rfl, fun H Q st k => i_tout ?_⟩
        walk_at "go"
        have s0 : Stt [] H [] [] H := Stt.init H
        clear st
        refine st_newT K s0 (by simp) fun q1 nq1 s0 => ?_
        walk_at "go"
        refine st_newT K s0 (by simp) fun q2 nq2 s0 => ?_
        walk_at "go"
        rw [z_n11]
        refine out_pst (net := [[.inr "a"]]) (.tup (s0.pers 1 rfl) (.cons (.tup (s0.pers 0 rfl) (.cons (.str _) .nil)) .nil)) netOk_a (by decide) (TxOk.lit (by decide) (by decide) (by decide)) rfl rfl fun v H1 e1 hv => k v H1 (s0.same.trans e1) ?_
        unfold RSt at hv
        rw [show ([[.inr "a"]] : List (List Key)).length = 1 from rfl, n11_st] at hv
        exact hv
      walk_at "go"
      refine ne_lists (st.sqL 3 rfl) (st.sqL 2 rfl) hvs (.cons (.tup (st.pers 12 rfl) (.cons (.str _) .nil)) (.cons (.tup (st.pers 13 rfl) (.cons (.str _) (.cons (.int _) (.cons (.int _) .nil)))) (.cons (.tup (st.pers 14 rfl) (.cons (.str _) (.cons (.int _) (.cons (.int _) .nil)))) (.cons (.tup (st.pers 15 rfl) (.cons (.str _) (.cons (.int _) (.cons (.int _) .nil)))) (.cons (.tup (st.pers 16 rfl) (.cons (.str _) (.cons (.int _) .nil))) (.cons (.tup (st.pers 17 rfl) (.cons (.str _) (.cons (.int _) .nil))) .nil)))))) (by decide +kernel) (by decide +kernel) ?_
      refine ⟨_, rfl, iteF ?_⟩
      walk_at "go"
      exact ⟨_, _, _, _, _, _, _, _, _, _, _, _, _, i, m, r, rfl, (st.only (P' := [fun H => LamX.Tabs tabT H]) [0] rfl).picks [0] (by decide) rfl⟩
    · rintro σ H ⟨s2, s3, s4, s5, s6, s7, s8, s9, s10, s11, s12, s13, s14, i, m, r, rfl, st⟩
      walk_at "go"
      exact k _
end
theorem law_at {l : PySem.W.OpenLaw} {w : World} {K : PySem.W.Frag} {mg : Str → Option Value} {fa : Addr} {h : Heap} {F c0 c1 c2 c3 c4 c5 c6 c7 c8 c9 c10 c11 c12 c13 a1 t1 : Addr} (KX : K.In h) (hmg : mg "law" = some (.ref fa)) (hT : ∀ P ∈ [t1], h.get? P = some (PySem.W.tabObj #[])) (A : All K mg)
    (Er : ErrO K mg F [c0, c1, c2, c3, c4, c5, c6, c7, c8, c9, c10, c11, c12, c13]) (ow : errOwn K [c7] = true) (IN : InetK K mg c5) (KT : KxInvalidText K mg c8)
    (D1 : LPre K mg "law" s_law a1 t1) (k1 : K.lookup t1 = none) (C1 : PySem.W.codeHdIn K a1 t1 = true) (ht : ∀ p ∈ tabT, p.1 = t1) :
    LamX.LawAtS l w K (L2.CX l.prog w) 15 63 "_law_script" mg fa h := by
  obtain ⟨f, oc, od, kV, doc, pm, an, ct, osl, lk, hcd, kp, hm, tm1, tm2⟩ := D1.ex
  rw [hmg] at hm
  cases hm
  refine ⟨_, [(a1, t1)], spLaw K, fun p hp => ?_, fun p hp => ?_, fun p hp => ?_, fun s u => .of_eq (by rfl), fun H a ns h1 h2 h3 h4 => ?_, fun base _ _ tb => ok_law A Er ow IN KT lk hcd (tb (a1, t1) (by simp)) tm1 tm2⟩
  · rw [List.mem_singleton.mp hp]
    exact hT _ (by simp)
  · rw [List.mem_singleton.mp hp]
    exact k1
  · rw [List.mem_singleton.mp hp]
    exact PySem.W.codeHd_of_K KX C1
  · refine ⟨a, ns, rfl, h4, h1, fun p hp => LamX.TabS.nil ?_, fun _ => rfl⟩
    rw [ht p hp]
    exact h3 (a1, t1) (by simp)
end Fb

open PySem PySem.W PyProof.Rows
set_option maxRecDepth 100000 in
set_option maxHeartbeats 0 in
theorem PySem.Challenge.cw_fullboats_k50_texts_round_trip_holds : PySem.Challenge.rw_fullboats_k50_texts_round_trip.Holds := by
  w_on; o_law; k_head; (case hw => w_witness2)
  k_fill
  refine LamX.walk_ofTs (l := PySem.Challenge.rw_fullboats_k50_texts_round_trip) (n := 63) (k := 15) (x := "_law_script") (CX := fun w => L2.CX PySem.Challenge.rw_fullboats_k50_texts_round_trip.prog w) rfl (by decide) rfl ⟨rfl, by decide, by decide⟩ (fun w h Y => PySem.W.km_in_of Y) ?F ?e
  case e =>
    intro w H s e s' h
    obtain ⟨_, _, _, _, _, _, _, _, _, _, _, _, z⟩ := h
    exact z.elim
  case F =>
    intro w mg fa h Y KX G hmg
    have hT := PySem.W.km_tabs_of Y
    clear Y
    refine' Fb.law_at KX hmg hT (Fb.All.mk ?d0 ?d1 ?d2 ?d3 ?d4 ?d5 ?d6 ?d7 ?d8 ?d9 ?d10 ?d11 ?d12 ?d13 ?d14 ?d15 ?d16 ?d17 ?d18 ?d19 ?d20 ?d21 ?d22 ?d23 ?d24 ?d25 ?d26 ?d27 ?b0 ?b1 ?b2 ?b3 ?b4 ?b5 ?b6 ?b7 ?b8 ?b9 ?b10 ?b11 ?b12 ?b13 ?b14 ?c0 ?c1 ?c2 ?c3 ?c4 ?c5 ?c6 ?c7) ?er ?ow ?IN ?KX0 ?l0 ?k0x ?C0 ?ht
    case d0 => (refine' Fb.DefIn.mk' KX G ?a ?l ?c ?k; (case a => k_is); (case l => k_is); (case c => k_is); (case k => k_is))
    case d1 => (refine' Fb.DefIn.mk' KX G ?a ?l ?c ?k; (case a => k_is); (case l => k_is); (case c => k_is); (case k => k_is))
    case d2 => (refine' Fb.DefIn.mk' KX G ?a ?l ?c ?k; (case a => k_is); (case l => k_is); (case c => k_is); (case k => k_is))
    case d3 => (refine' Fb.DefIn.mk' KX G ?a ?l ?c ?k; (case a => k_is); (case l => k_is); (case c => k_is); (case k => k_is))
    case d4 => (refine' Fb.DefIn.mk' KX G ?a ?l ?c ?k; (case a => k_is); (case l => k_is); (case c => k_is); (case k => k_is))
    case d5 => (refine' Fb.DefIn.mk' KX G ?a ?l ?c ?k; (case a => k_is); (case l => k_is); (case c => k_is); (case k => k_is))
    case d6 => (refine' Fb.DefIn.mk' KX G ?a ?l ?c ?k; (case a => k_is); (case l => k_is); (case c => k_is); (case k => k_is))
    case d7 => (refine' Fb.DefIn.mk' KX G ?a ?l ?c ?k; (case a => k_is); (case l => k_is); (case c => k_is); (case k => k_is))
    case d8 => (refine' Fb.DefIn.mk' KX G ?a ?l ?c ?k; (case a => k_is); (case l => k_is); (case c => k_is); (case k => k_is))
    case d9 => (refine' Fb.DefIn.mk' KX G ?a ?l ?c ?k; (case a => k_is); (case l => k_is); (case c => k_is); (case k => k_is))
    case d10 => (refine' Fb.DefIn.mk' KX G ?a ?l ?c ?k; (case a => k_is); (case l => k_is); (case c => k_is); (case k => k_is))
    case d11 => (refine' Fb.DefIn.mk' KX G ?a ?l ?c ?k; (case a => k_is); (case l => k_is); (case c => k_is); (case k => k_is))
    case d12 => (refine' Fb.DefIn.mk' KX G ?a ?l ?c ?k; (case a => k_is); (case l => k_is); (case c => k_is); (case k => k_is))
    case d13 => (refine' Fb.DefIn.mk' KX G ?a ?l ?c ?k; (case a => k_is); (case l => k_is); (case c => k_is); (case k => k_is))
    case d14 => (refine' Fb.DefIn.mk' KX G ?a ?l ?c ?k; (case a => k_is); (case l => k_is); (case c => k_is); (case k => k_is))
    case d15 => (refine' Fb.DefIn.mk' KX G ?a ?l ?c ?k; (case a => k_is); (case l => k_is); (case c => k_is); (case k => k_is))
    case d16 => (refine' Fb.DefIn.mk' KX G ?a ?l ?c ?k; (case a => k_is); (case l => k_is); (case c => k_is); (case k => k_is))
    case d17 => (refine' Fb.DefIn.mk' KX G ?a ?l ?c ?k; (case a => k_is); (case l => k_is); (case c => k_is); (case k => k_is))
    case d18 => (refine' Fb.DefIn.mk' KX G ?a ?l ?c ?k; (case a => k_is); (case l => k_is); (case c => k_is); (case k => k_is))
    case d19 => (refine' Fb.DefIn.mk' KX G ?a ?l ?c ?k; (case a => k_is); (case l => k_is); (case c => k_is); (case k => k_is))
    case d20 => (refine' Fb.DefIn.mk' KX G ?a ?l ?c ?k; (case a => k_is); (case l => k_is); (case c => k_is); (case k => k_is))
    case d21 => (refine' Fb.DefIn.mk' KX G ?a ?l ?c ?k; (case a => k_is); (case l => k_is); (case c => k_is); (case k => k_is))
    case d22 => (refine' Fb.DefIn.mk' KX G ?a ?l ?c ?k; (case a => k_is); (case l => k_is); (case c => k_is); (case k => k_is))
    case d23 => (refine' Fb.DefIn.mk' KX G ?a ?l ?c ?k; (case a => k_is); (case l => k_is); (case c => k_is); (case k => k_is))
    case d24 => (refine' Fb.DefIn.mk' KX G ?a ?l ?c ?k; (case a => k_is); (case l => k_is); (case c => k_is); (case k => k_is))
    case d25 => (refine' Fb.DefIn.mk' KX G ?a ?l ?c ?k; (case a => k_is); (case l => k_is); (case c => k_is); (case k => k_is))
    case d26 => (refine' Fb.DefIn.mk' KX G ?a ?l ?c ?k; (case a => k_is); (case l => k_is); (case c => k_is); (case k => k_is))
    case d27 => (refine' Fb.DefIn.mk' KX G ?a ?l ?c ?k; (case a => k_is); (case l => k_is); (case c => k_is); (case k => k_is))
    case b0 => exact PySem.W.mg_none_of KX G (by k_is)
    case b1 => exact PySem.W.mg_none_of KX G (by k_is)
    case b2 => exact PySem.W.mg_none_of KX G (by k_is)
    case b3 => exact PySem.W.mg_none_of KX G (by k_is)
    case b4 => exact PySem.W.mg_none_of KX G (by k_is)
    case b5 => exact PySem.W.mg_none_of KX G (by k_is)
    case b6 => exact PySem.W.mg_none_of KX G (by k_is)
    case b7 => exact PySem.W.mg_none_of KX G (by k_is)
    case b8 => exact PySem.W.mg_none_of KX G (by k_is)
    case b9 => exact PySem.W.mg_none_of KX G (by k_is)
    case b10 => exact PySem.W.mg_none_of KX G (by k_is)
    case b11 => exact PySem.W.mg_none_of KX G (by k_is)
    case b12 => exact PySem.W.mg_none_of KX G (by k_is)
    case b13 => exact PySem.W.mg_none_of KX G (by k_is)
    case b14 => exact PySem.W.mg_none_of KX G (by k_is)
    case c0 => exact ⟨_, PySem.W.mg_of KX G (by k_is)⟩
    case c1 => exact ⟨_, PySem.W.mg_of KX G (by k_is)⟩
    case c2 => exact ⟨_, PySem.W.mg_of KX G (by k_is)⟩
    case c3 => exact ⟨_, PySem.W.mg_of KX G (by k_is)⟩
    case c4 => exact ⟨_, PySem.W.mg_of KX G (by k_is)⟩
    case c5 => exact ⟨_, PySem.W.mg_of KX G (by k_is)⟩
    case c6 => exact ⟨_, PySem.W.mg_of KX G (by k_is)⟩
    case c7 => exact ⟨_, PySem.W.mg_of KX G (by k_is)⟩
    case er =>
      refine' ⟨PySem.W.mg_of KX G ?fe, Fb.ErrN.cons' KX G ?e0 (Fb.ErrN.cons' KX G ?e1 (Fb.ErrN.cons' KX G ?e2 (Fb.ErrN.cons' KX G ?e3 (Fb.ErrN.cons' KX G ?e4 (Fb.ErrN.cons' KX G ?e5 (Fb.ErrN.cons' KX G ?e6 (Fb.ErrN.cons' KX G ?e7 (Fb.ErrN.cons' KX G ?e8 (Fb.ErrN.cons' KX G ?e9 (Fb.ErrN.cons' KX G ?e10 (Fb.ErrN.cons' KX G ?e11 (Fb.ErrN.cons' KX G ?e12 (Fb.ErrN.cons' KX G ?e13 (Fb.ErrN.nil)))))))))))))), ?et, ?nd, ?no⟩
      (case fe => k_is)
      (case e0 => k_is)
      (case e1 => k_is)
      (case e2 => k_is)
      (case e3 => k_is)
      (case e4 => k_is)
      (case e5 => k_is)
      (case e6 => k_is)
      (case e7 => k_is)
      (case e8 => k_is)
      (case e9 => k_is)
      (case e10 => k_is)
      (case e11 => k_is)
      (case e12 => k_is)
      (case e13 => k_is)
      (case et => kernel_rfl)
      (case nd => decide)
      (case no => kernel_rfl)
    case ow => kernel_rfl
    case IN =>
      refine' Fb.InetK.mk' (PySem.W.mg_of KX G ?mgC) ?a ?l ?c ?k ?o (PySem.W.mg_of KX G ?m) ?s ?r ?fc
      (case mgC => k_is)
      (case a => k_is)
      (case l => k_is)
      (case c => k_is)
      (case k => k_is)
      (case o => kernel_rfl)
      (case m => k_is)
      (case s => k_is)
      (case r => k_is)
      (case fc => k_is)
    case KX0 =>
      refine' Fb.KxInvalidText.mk' (PySem.W.mg_of KX G ?mgC) ?a ?l ?c ?k ?o (PySem.W.mg_of KX G ?m) ?s ?r ?fc
      (case mgC => k_is)
      (case a => k_is)
      (case l => k_is)
      (case c => k_is)
      (case k => k_is)
      (case o => kernel_rfl)
      (case m => k_is)
      (case s => k_is)
      (case r => k_is)
      (case fc => k_is)
    case l0 => (refine' Fb.LPre.mk' KX G ?a ?l ?c ?k ?m1 ?m2; (case a => k_is); (case l => k_is); (case c => k_is); (case k => k_is); (case m1 => decide +kernel); (case m2 => decide +kernel))
    case k0x => kernel_rfl
    case C0 => kernel_rfl
    case ht => decide +kernel
