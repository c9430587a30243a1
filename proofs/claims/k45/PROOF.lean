import PyProof.Rows.All
import Wide.All
import OpenK.AllK
import Wide.FinOn
import PyProof.EqAt
import PyProof.EqKinds
import PyProof.TupleCall
import KE.GoesEnum
import HandS.ForMost
import HandS.ForExc
import HandS.Walk
import HandS.ExcCtx
import HandS.WordsExc
import HandS.IsInst
import HandS.Conv
import HandS.Style
import HandS.Zip
import HandS.Wide
import HandS.DeepEq
import HandS.More
import HandS.DictComp
import KE.KDictPairs
import HandS.SortInts
import HandS.Keys
import HandS.ListItems
import KE.KDictList
import HandS.TupMul
import HandS.Strs
import HandS.DictTup
import HandS.Deep
import HandS.ExcInit
import HandS.ExcOwn
import HandS.ExcIs
import HandS.ExcField
import HandS.TryOnly
import HandS.MakeKwOnly
import HandS.Lambda
import HandS.SetFor
import KE.KExcIs
import HandS.TupAny
import KE.KDflt
import HandS.Set
import HandS.DictEq
import HandS.Sort
import HandS.Iter
import KE.KTupSum
import PyProof.WalksMore
import PyProof.MinMaxWalk
import HandS.HotCalls
import HandS.Bytes
import HandS.Replace
import HandS.Codes
import KE.GoesRaise
import KE.KUnpack
import PyProof.CollectIter
import PyProof.NeKinds
import HandS.Finally
import KE.KAssignIn
import HandS.SuiteRaise
import HandS.Hot
import KE.KExcRaise
import OpenK.KDict
import KE.KDictCopyH
import PyProof.P3In
import HandS.RaiseFrom
import PyProof.DictUpdate
import HandS.Head0
import HandS.Head1
import HandS.Head2
import HandS.HeadEnd
import HandS.HeadHook1
import HandS.HeadHook2
import HandS.HeadHook3
import HandS.HeadHook4
import HandS.EndTab
import HandS.HeadWalk
import PySem.Challenge.RW_fullboats_k45_canonical_form
set_option Elab.async false
set_option linter.all false
set_option maxRecDepth 100000
set_option maxHeartbeats 4000000
namespace Fb
open PySem
def tabT : List (Addr × Str) := []
end Fb
set_option maxHeartbeats 4000000
namespace L2
open PySem PySem.Spec PyProof.Rows
section
variable {P : Program} {w : World} {K : PySem.W.Frag} {mg : Str → Option Value} {base : Heap}
theorem Fun.okN {x qual : Str} {st : Stmt} {f : Addr} {fd : FuncData} {N ps : List Str} {k : Nat} {sp : Sp} (F : Fun K x qual st f fd) (S : FnScope N ps (defScope st)) (len : ∀ vs H Q E, sp vs H Q E → vs.length = ps.length)
    (hbody : ∀ (cdv : Value) (A : Around) (outer : List Env) (s : Shared) (H : Hp) (vs : List V) (Q : VK) (E : XK), Room k (A.deeper (envOfC qual (defScope st) s.heap.objs.size f cdv)) → sp vs H Q E →
      ∃ t, PSs (cxOf (L2N.CX P w) P w K mg base N qual (defScope st) f cdv A outer s H E) (defBody st) t ∧ t { nx := fun _ H' => Q .non H', rt := Q } (start N vs) H) : FnOk P w K mg base (L2N.CX P w) (k + 1) f fd ps sp := by
  obtain ⟨oc, od, kV, doc, pm, an, cdv, ct, osl, rfl, lk, hcd⟩ := F.ex
  exact fn_of lk hcd S len fun A outer s H vs Q E hr hsp => hbody cdv A outer s H vs Q E hr hsp
end
end L2
namespace Fb
open PySem PySem.Spec PyProof.Rows
abbrev Takes := @L2N.Takes
abbrev takes_of := @L2N.takes_of
abbrev passes_call := @L2N.passes_call
abbrev ps_raise := @L2N.ps_raise
abbrev PMk := @L2N.PMk
theorem passL {X : L2.Cx} : L2.Passes (L2N.CX X.prog X.w) X L2.E0 := fun _ _ _ _ _ _ _ h => by
  obtain ⟨_, _, _, _, _, _, _, _, _, _, _, _, z⟩ := h
  exact z.elim
end Fb
namespace Fb
open PySem PySem.Spec PyProof.Rows L2
def SqB (kd : Bool) (K : PySem.W.Frag) (H : Hp) (a : Addr) (xs : List V) : Prop := if kd = true then SqL K H a xs else SqT K H a xs
def SrcIt (kd : Bool) (h : Heap) (it a : Addr) (i : Nat) : Prop := if kd = true then h.IsListIter it a i else h.IsTupleIter it a i
def SrcIs (kd : Bool) (h : Heap) (a : Addr) (its : Array Value) : Prop := if kd = true then h.IsList a its else h.IsTuple a its
theorem SqB.inj {X : Cx} {pins : List (Addr × Obj)} {σ : L2.St} {H : Hp} {s : Shared} {kd : Bool} {a : Addr} {xs ys : List V} (I : Inv X pins σ H s) (h : SqB kd X.K H a xs) (h' : SqB kd X.K H a ys) : xs = ys := by
  cases kd
  · exact I.tuple_inj h h'
  · exact I.list_inj h h'
theorem SqB.src {X : Cx} {pins : List (Addr × Obj)} {σ : L2.St} {H : Hp} {s : Shared} {kd : Bool} {a : Addr} {xs : List V} (I : Inv X pins σ H s) (h : SqB kd X.K H a xs) : ∃ its : List Value, Vals xs its ∧ SrcIs kd s.heap a its.toArray ∧ a < s.heap.objs.size := by
  cases kd
  · obtain ⟨its, r, p, _⟩ := I.tuple h
    exact ⟨its, r, p, p.lt⟩
  · obtain ⟨its, r, p, _⟩ := I.list h
    exact ⟨its, r, p.isList, p.lt⟩
theorem SrcIt.obj {kd : Bool} {h : Heap} {it a : Addr} {i : Nat} (st : SrcIt kd h it a i) : ∃ o, h.get? it = some o ∧ ∀ v, o.data ≠ .cell v := by
  cases kd
  · obtain ⟨o, e, _, d⟩ := (show h.IsTupleIter it a i from st)
    exact ⟨o, e, fun v q => by rw [d] at q; cases q⟩
  · obtain ⟨o, e, _, d⟩ := (show h.IsListIter it a i from st)
    exact ⟨o, e, fun v q => by rw [d] at q; cases q⟩
theorem SrcIt.at' {kd : Bool} {h h' : Heap} {it a : Addr} {i : Nat} (st : SrcIt kd h it a i) (k : ∀ o, h.get? it = some o → h'.get? it = some o) : SrcIt kd h' it a i := by
  cases kd
  · exact (show h.IsTupleIter it a i from st).at k
  · exact (show h.IsListIter it a i from st).at k
theorem src_draws {prog : Program} {w : World} {A : Around} (hh : A.handled = none) (kd : Bool) (it a : Addr) (hne : a ≠ it) (items : Array Value) :
    Draws prog w A it [it, a] items.size (fun i v => items[i]? = some v) (fun i h => SrcIt kd h it a i ∧ SrcIs kd h a items) := by
  cases kd
  · exact Draws.tuple hh it a hne items
  · exact Draws.list hh it a hne items
def srcObj (kd : Bool) (a : Addr) : Obj := if kd = true then { cls := .type "list_iterator", data := .fields #[.ref a, .int 0 0] } else { cls := .type "tuple_iterator", data := .fields #[.ref a, .int 0 0] }
theorem src_begins (kd : Bool) (a : Addr) (items : Array Value) : Begins (.ref a) (srcObj kd a) fun h => SrcIs kd h a items := by
  cases kd
  · exact begins_tuple a items
  · exact begins_list a items
theorem src_new {kd : Bool} {h : Heap} {it a : Addr} (e : h.get? it = some (srcObj kd a)) : SrcIt kd h it a 0 := by
  cases kd
  · exact ⟨_, e, rfl, rfl⟩
  · exact ⟨_, e, rfl, rfl⟩
set_option maxHeartbeats 8000000 in
theorem meets_enumerate_newB1 {v : Value} {o : Obj} {H : Heap → Prop} (B : Begins v o H) :
    Meets (Builtin.«enumerate.__new__» ⟨[.type "enumerate", v], []⟩) (fun _ R s => H s.heap ∧
      R (.ok (.ret (.ref (s.heap.push o).objs.size))) { s with heap := (s.heap.push o).push { cls := .type "enumerate", data := .fields #[.none, .bool false, .ref s.heap.objs.size, rawInt 0, .none, .none] } }) :=
  .of_wp fun prog w A R s h => by
    obtain ⟨hp, g, d, tk, os⟩ := s; obtain ⟨h1, h⟩ := h
    have hsub := sub_enumerate
    have q1 : ∀ {A' : Around} {E : Value → Shared → Prop} {Q : Value → Shared → Prop}, Q (.ref hp.objs.size) ⟨hp.push o, g, d, tk, os⟩ → wpAny (model prog w) A' (pyIter v) Q E ⟨hp, g, d, tk, os⟩ :=
      fun q => B.iter prog w _ _ ⟨hp, g, d, tk, os⟩ _ h1 q
    wp_walk using q1
    refine wpAny_stack_any fun st => wpAny_pure ?_
    split
    · rename_i c _ _ _ _ _
      cases (c == Value.type "enumerate")
      · wp_walk using q1
        exact ⟨_, rfl, h⟩
      · wp_walk using q1
        exact ⟨_, rfl, h⟩
    · wp_walk using q1
      exact ⟨_, rfl, h⟩
theorem enum_begins1 {prog : Program} {w : World} {A : Around} {E : Value → Shared → Prop} {s : Shared} {v : Value} {o : Obj} {H : Heap → Prop} {Q : Value → Shared → Prop} (B : Begins v o H) (h1 : H s.heap)
    (h : ∀ h', IsEnum h' (s.heap.objs.size + 1) s.heap.objs.size 0 .none → h'.get? s.heap.objs.size = some o → h'.objs.size = s.heap.objs.size + 2 →
      (∀ b o, s.heap.get? b = some o → h'.get? b = some o) → Q (.ref (s.heap.objs.size + 1)) { s with heap := h' }) :
    wpAny (model prog w) A (call (.type "enumerate") [v]) Q E s := by
  refine callType_new F.called_enumerate (by decide) (F.typeCall_enumerate_1 _) (F.newCall_enumerate_1 _) (fun obj => F.args_object_init_2 obj _) F.entry_enumerate_new
    (meets_enumerate_newB1 B) ⟨h1, ?_⟩
  have hz : (s.heap.push o).objs.size = s.heap.objs.size + 1 := Heap.size_push ..
  show _ ∧ _
  rw [hz]
  have he : IsEnum ((s.heap.push o).push { cls := .type "enumerate", data := .fields #[.none, .bool false, .ref s.heap.objs.size, rawInt 0, .none, .none] }) (s.heap.objs.size + 1) s.heap.objs.size 0 .none := by
    have := Heap.get?_push_size (s.heap.push o) (o := { cls := .type "enumerate", data := .fields #[.none, .bool false, .ref s.heap.objs.size, rawInt 0, .none, .none] }) rfl
    rw [hz] at this; exact this
  refine ⟨⟨_, he, rfl⟩, h _ he (Heap.get?_push_of_some _ (Heap.get?_push_size _ B.free)) (by rw [Heap.size_push, hz]) fun b o x => Heap.get?_push_of_some _ (Heap.get?_push_of_some _ x)⟩
def ItE (kd : Bool) (K : PySem.W.Frag) (a : Addr) : It :=
  ⟨fun i H => ∃ (xs : List V) (x : V), SqB kd K H a xs ∧ xs[i]? = some x, fun i H v H' => ∃ T x, v = .ref T ∧ H T = none ∧ H' = upd H T (.tup [.int (i : Nat), x]) ∧ ∀ xs, SqB kd K H a xs → xs[i]? = some x, fun i H => ∃ xs : List V, SqB kd K H a xs ∧ xs.length = i⟩
theorem turn_enumB {P : Program} {w : World} {K : PySem.W.Frag} {elts : List Expr} {kk : Nat} {tpos : Pos} (kd : Bool) (a e it : Addr) :
    Turn P w K (.Tuple elts kk tpos) (ItE kd K a) [e, it] e (fun i h => (∃ old, IsEnum h e it ((i : Nat) : Int) old) ∧ SrcIt kd h it a i ∧ e ≠ it ∧ a ≠ it ∧ e ≠ a) where
  mem := by simp
  obj := fun i h st b hb => by
    obtain ⟨⟨old, he⟩, hi, _⟩ := st
    have e' : b = e ∨ b = it := by simpa using hb
    rcases e' with z | z
    · rw [z]; exact ⟨_, he, fun v q => nomatch q⟩
    · rw [z]; exact hi.obj
  keep := fun i h h' st k => let ⟨⟨old, he⟩, hi, hne⟩ := st; ⟨⟨old, k e (by simp) _ he⟩, hi.at' fun o q => k it (by simp) o q, hne⟩
  item := by
    intro X hP hw hK hc i pins s σ H E I hf st hg
    subst hP hw hK
    obtain ⟨⟨old, he⟩, hit, hne, hai, hea⟩ := st
    obtain ⟨xs, x, hq, hx⟩ := hg
    obtain ⟨its, rv, p, _⟩ := hq.src I
    obtain ⟨u, hu, ru⟩ := rv.get hx
    have hel : e < s.heap.objs.size := Heap.lt_size he
    have hil : it < s.heap.objs.size := by obtain ⟨_, q, _⟩ := hit.obj; exact Heap.lt_size q
    have hlt : i < its.toArray.size := by
      have := (List.getElem?_eq_some_iff.mp hu).1
      simpa using this
    refine wpAny_pyNext_enum_itemD (src_draws (by exact I.ok.hd hc) kd it a hai its.toArray) he ⟨hit, p⟩ hlt hne (by simp [hne, hea]) fun x' h' tk hP ho hit' hT hsz hk => ?_
    have ex : x' = u := by
      have h1 : its.toArray[i]? = some u := by simpa using hu
      rw [h1] at hP
      exact (Option.some.inj hP).symm
    subst ex
    refine ⟨_, rfl, wpAny_letOwnedTupleGo_enum (s := { s with heap := h', toks := tk + 1 }) ho fun h'' he' sb => ?_⟩
    have hT2 : h''.get? s.heap.objs.size = some { cls := .type "tuple", data := .seq #[.int i tk, x'] } := (sb.2 _ (Nat.ne_of_gt hel)).trans hT
    have new : ObjOk X.prog X.w (upd H s.heap.objs.size (.tup [.int (i : Nat), x])) h'' s.heap.objs.size (.tup [.int (i : Nat), x]) :=
      ⟨by show 2 ≤ sizeLine; decide, [.int i tk, x'], .cons ⟨_, rfl⟩ (.cons ru .nil), ⟨_, hT2, rfl, _, rfl⟩⟩
    have I1 : Inv X pins σ (upd H s.heap.objs.size (.tup [.int (i : Nat), x])) { s with heap := h'', toks := tk + 1 } :=
      I.turnedNew (ch := [e, it]) (fun b ob hb q => (sb.2 b (fun z => hb (by simp [z]))).trans (hk b ob (fun z => hb (by simp [z])) (fun z => hb (by simp [z])) q)) hf (Nat.le_refl _) new
    refine ⟨.ref s.heap.objs.size, _, I1, rfl, ⟨_, x, rfl, I.hok.fresh (Nat.le_refl _), rfl, fun ys hy => by rw [hy.inj I hq]; exact hx⟩, ⟨⟨x', ?_⟩, hit'.1.at' fun o q => (sb.2 it (Ne.symm hne)).trans q, hne, hai, hea⟩, fun b hb => ?_⟩
    · have e1 : ((i + 1 : Nat) : Int) = (i : Int) + 1 := by omega
      rw [e1]; exact he'
    · have hb' : b < s.heap.objs.size := by
        have e' : b = e ∨ b = it := by simpa using hb
        rcases e' with z | z
        · rw [z]; exact hel
        · rw [z]; exact hil
      rw [upd_ne (Nat.ne_of_lt hb')]
      exact (hf b hb).1
  done := by
    intro X hP hw hK hc i pins s σ H E I hf st hg
    subst hP hw hK
    obtain ⟨⟨old, he⟩, hit, hne, hai, hea⟩ := st
    obtain ⟨xs, hq, hx⟩ := hg
    obtain ⟨its, rv, p, _⟩ := hq.src I
    obtain ⟨f0, f1, f2, f3, f4, f5⟩ := hf it (by simp)
    have hl : i = its.toArray.size := by
      have := rv.length
      simp
      omega
    subst hl
    exact wpAny_pyNext_enum_endD (src_draws (by exact I.ok.hd hc) kd it a hai its.toArray) he ⟨hit, p⟩ fun h' eb => ⟨rfl, I.turned (t' := s.toks) (fun b o hb q => eb b o hb q) f0 f1 f3 f4 f5⟩
  self := fun A i s Q E st h => let ⟨⟨_, he⟩, _⟩ := st; wpAny_pyIter_enum he h
def iEnumB (K : PySem.W.Frag) (ta : TA) : TI := fun σ H R => ta σ H fun vs H1 => ∃ kd a xs, vs = [.ref a] ∧ SqB kd K H1 a xs ∧ R (ItE kd K a) H1
theorem pi_enumB {X : Cx} {e : Expr} {ta : TA} {p pos tpos : Pos} {elts : List Expr} {kk : Nat} (hg : Gl X "enumerate") (hm : X.mg "enumerate" = none) (ha : PA X [e] ta) (hs : starEach [e] X.env = [(false, eval e X.env)] := by rfl) :
    PI X (.Tuple elts kk tpos) (.Call (.Name "enumerate" p) [e] [] pos) (iEnumB X.K ta) := by
  refine ⟨fun pins s σ H R I h => ?_⟩
  refine Call_ (ld_blt I hg hm boot_enumerate (PyProof.Rows.callWith_type1 (thn (ha.run pos pins s σ H _ I h) fun us s1 ⟨vs, H1, I1, r1, q1⟩ => ?_) hs rfl))
  obtain ⟨kd, a, xs, ex, hq, q⟩ := q1
  subst ex
  cases r1 with
  | cons r rr =>
    cases rr
    cases r
    obtain ⟨its, rv, p', hlt⟩ := hq.src I1
    refine enum_begins1 (src_begins kd a its.toArray) p' fun h' he hit hsz hk => wpAny_pyIter_enum he ?_
    have I2 : Inv X pins σ H1 { s1 with heap := h' } := I1.kept (t' := s1.toks) hk
    refine ⟨s1.heap.objs.size + 1, [s1.heap.objs.size + 1, s1.heap.objs.size], _, _, H1, rfl, I2, turn_enumB kd a (s1.heap.objs.size + 1) s1.heap.objs.size, ⟨⟨.none, he⟩, src_new hit, Nat.succ_ne_self _, Nat.ne_of_lt hlt, Nat.ne_of_gt (Nat.lt_succ_of_lt hlt)⟩, fun b hb => ?_, q⟩
    have e' : b = s1.heap.objs.size + 1 ∨ b = s1.heap.objs.size := by simpa using hb
    have hle : s1.heap.objs.size ≤ b := by
      rcases e' with z | z
      · rw [z]; exact Nat.le_add_right _ _
      · rw [z]; exact Nat.le_refl _
    exact I1.fpOk hle (I1.hok.fresh hle)
theorem walk_enumB {kd : Bool} {K : PySem.W.Frag} {a : Addr} {xs : List V} : Walk (ItE kd K a) xs.length (fun H => SqB kd K H a xs) (YPair (fun i => some (.int (i : Nat))) (fun i => xs[i]?)) := by
  refine ⟨fun i H hi g => ⟨xs, xs[i], g, by simp [hi]⟩, fun H g => ⟨xs, g, rfl⟩, fun i H x H' hi g y => ?_⟩
  obtain ⟨T, z, e, n, e2, f⟩ := y
  exact ⟨T, _, z, e, n, e2, rfl, f xs g⟩
def ItZ (k1 k2 : Bool) (K : PySem.W.Frag) (a b : Addr) : It :=
  ⟨fun i H => ∃ (xs ys : List V) (x y : V), SqB k1 K H a xs ∧ SqB k2 K H b ys ∧ xs[i]? = some x ∧ ys[i]? = some y,
    fun i H v H' => ∃ T x y, v = .ref T ∧ H T = none ∧ H' = upd H T (.tup [x, y]) ∧ (∀ xs, SqB k1 K H a xs → xs[i]? = some x) ∧ ∀ ys, SqB k2 K H b ys → ys[i]? = some y,
    fun i H => ∃ xs ys : List V, SqB k1 K H a xs ∧ SqB k2 K H b ys ∧ i ≤ xs.length ∧ i ≤ ys.length ∧ (i = xs.length ∨ i = ys.length)⟩
def iZipB (K : PySem.W.Frag) (ta : TA) : TI := fun σ H R => ta σ H fun vs H1 => ∃ k1 k2 a b xs ys, vs = [.ref a, .ref b] ∧ SqB k1 K H1 a xs ∧ SqB k2 K H1 b ys ∧ R (ItZ k1 k2 K a b) H1
end Fb
set_option maxHeartbeats 4000000
namespace Fb
open PySem L2
def TupO : HO → Prop
  | .tup _ => True
  | .ext _ => True
  | .frz _ (.tup _) => True
  | _ => False
structure TK (H H' : Hp) : Prop where
  all : ∀ a o, TupO o → H a = some o → H' a = some o
  tb : ∀ p ∈ tabT, LamX.TabS H p.1 p.2 → LamX.TabS H' p.1 p.2
instance (H H' : Hp) : CoeFun (TK H H') (fun _ => ∀ a xs, H a = some (.tup xs) → H' a = some (.tup xs)) := ⟨fun t a xs h => t.all a _ trivial h⟩
theorem TK.refl (H : Hp) : TK H H := ⟨fun _ _ _ h => h, fun _ _ h => h⟩
theorem TK.trans {H H1 H2 : Hp} (a : TK H H1) (b : TK H1 H2) : TK H H2 := ⟨fun x o t h => b.all x o t (a.all x o t h), fun p m h => b.tb p m (a.tb p m h)⟩
theorem TK.same {H H' : Hp} (e : Same H H') : TK H H' := ⟨fun a o _ h => e a _ h, fun _ _ h => h.ext e⟩
theorem Same.new {H : Hp} {p : Addr} {o : HO} (h : H p = none) : Same H (upd H p o) := fun a u e => by
  rw [upd_ne (ne_of_none e h)]
  exact e
def ExB (B : List Addr) (H H' : Hp) : Prop := ∀ a o, a ∉ B → H a = some o → H' a = some o
theorem ExB.same {B : List Addr} {H H' : Hp} (e : Same H H') : ExB B H H' := fun a o _ h => e a o h
theorem ExB.to {H H' : Hp} (e : ExB [] H H') : Same H H' := fun a o h => e a o (by simp) h
def TupN (H : Hp) (a : Addr) (xs : List V) : Prop := ∃ o : Obj, o.cls = .type "tuple" ∧ o.dict = none ∧ H a = some (.frz o (.tup xs))
def TupAt (K : PySem.W.Frag) (H : Hp) (a : Addr) (xs : List V) : Prop := H a = some (.tup xs) ∨ (∀ H', SqT K H' a xs) ∨ TupN H a xs
theorem TupAt.sq {K : PySem.W.Frag} {H : Hp} {a : Addr} {xs : List V} (h : TupAt K H a xs) : SqT K H a xs := by
  rcases h with h | h | ⟨o, _, _, h⟩
  · exact SqT.of h
  · exact h H
  · exact .inl (.inr ⟨o, h⟩)
theorem TupN.keep {H H' : Hp} {a : Addr} {xs : List V} (t : TK H H') (h : TupN H a xs) : TupN H' a xs := let ⟨o, h1, h2, h3⟩ := h; ⟨o, h1, h2, t.all _ _ trivial h3⟩
theorem TupAt.keep {K : PySem.W.Frag} {H H' : Hp} {a : Addr} {xs : List V} (t : TK H H') (h : TupAt K H a xs) : TupAt K H' a xs := by
  rcases h with h | h | h
  · exact .inl (t _ _ h)
  · exact .inr (.inl h)
  · exact .inr (.inr (h.keep t))
mutual
inductive Dt (K : PySem.W.Frag) (H : Hp) : V → PyData → Prop
  | non : Dt K H .non .none
  | bl (b : Bool) : Dt K H (.bl b) (.bool b)
  | int (i : Int) : Dt K H (.int i) (.int i)
  | str (x : Str) : Dt K H (.str x) (.str x)
  | tup {a : Addr} {xs : List V} {ds : List PyData} : TupAt K H a xs → DtAll K H xs ds → Dt K H (.ref a) (.tuple ds)
inductive DtAll (K : PySem.W.Frag) (H : Hp) : List V → List PyData → Prop
  | nil : DtAll K H [] []
  | cons {v : V} {vs : List V} {d : PyData} {ds : List PyData} : Dt K H v d → DtAll K H vs ds → DtAll K H (v :: vs) (d :: ds)
end
section
variable {K : PySem.W.Frag} {H H' : Hp}
mutual
theorem Dt.keep (t : TK H H') : ∀ (d : PyData) (v : V), Dt K H v d → Dt K H' v d
  | .none, _, h => by cases h; exact .non
  | .bool b, _, h => by cases h; exact .bl b
  | .int i, _, h => by cases h; exact .int i
  | .str x, _, h => by cases h; exact .str x
  | .list _, _, h => by cases h
  | .tuple ds, _, h => by
    cases h with
    | tup hs ha => exact .tup (hs.keep t) (Dt.keepAll t ds _ ha)
  | .dict _, _, h => by cases h
theorem Dt.keepAll (t : TK H H') : ∀ (ds : List PyData) (vs : List V), DtAll K H vs ds → DtAll K H' vs ds
  | [], _, h => by cases h; exact .nil
  | d :: ds, _, h => by
    cases h with
    | cons h1 h2 => exact .cons (Dt.keep t d _ h1) (Dt.keepAll t ds _ h2)
end
mutual
theorem Dt.dp : ∀ (d : PyData) (v : V), Dt K H v d → Dp K H v d
  | .none, _, h => by cases h; exact .non
  | .bool b, _, h => by cases h; exact .bl b
  | .int i, _, h => by cases h; exact .int i
  | .str x, _, h => by cases h; exact .str x
  | .list _, _, h => by cases h
  | .tuple ds, _, h => by
    cases h with
    | tup hs ha => exact .tup hs.sq (Dt.dpAll ds _ ha)
  | .dict _, _, h => by cases h
theorem Dt.dpAll : ∀ (ds : List PyData) (vs : List V), DtAll K H vs ds → DpAll K H vs ds
  | [], _, h => by cases h; exact .nil
  | d :: ds, _, h => by
    cases h with
    | cons h1 h2 => exact .cons (Dt.dp d _ h1) (Dt.dpAll ds _ h2)
end
theorem Dt.tup_inv {v : V} {ds : List PyData} (h : Dt K H v (.tuple ds)) : ∃ a xs, v = .ref a ∧ TupAt K H a xs ∧ DtAll K H xs ds := by
  cases h with
  | tup hs ha => exact ⟨_, _, rfl, hs, ha⟩
theorem DtAll.len {xs : List V} {ds : List PyData} (h : DtAll K H xs ds) : xs.length = ds.length := by
  induction ds generalizing xs with
  | nil => cases h; rfl
  | cons d ds ih =>
    cases h with
    | cons h1 h2 => simp [ih h2]
theorem DtAll.get {xs : List V} {ds : List PyData} {i : Nat} {x : V} (h : DtAll K H xs ds) (e : xs[i]? = some x) : ∃ d, ds[i]? = some d ∧ Dt K H x d := by
  induction ds generalizing xs i with
  | nil => cases h; simp at e
  | cons d ds ih =>
    cases h with
    | cons h1 h2 =>
      cases i with
      | zero =>
        simp at e
        subst e
        exact ⟨d, rfl, h1⟩
      | succ i => exact ih h2 (by simpa using e)
theorem DtAll.at {xs : List V} {ds : List PyData} {i : Nat} {d : PyData} (h : DtAll K H xs ds) (e : ds[i]? = some d) : ∃ x, xs[i]? = some x ∧ Dt K H x d := by
  have hl := h.len
  have hi : i < ds.length := (List.getElem?_eq_some_iff.mp e).1
  have hx : xs[i]? = some (xs[i]'(by omega)) := by simp
  obtain ⟨d', e', k⟩ := h.get hx
  rw [e] at e'
  cases e'
  exact ⟨_, hx, k⟩
theorem DtAll.snoc {xs : List V} {ds : List PyData} {x : V} {d : PyData} (h : DtAll K H xs ds) (k : Dt K H x d) : DtAll K H (xs ++ [x]) (ds ++ [d]) := by
  induction ds generalizing xs with
  | nil => cases h; exact .cons k .nil
  | cons d ds ih =>
    cases h with
    | cons h1 h2 => exact .cons h1 (ih h2)
end
def Pers (φ : Hp → Prop) : Prop := ∀ H H', TK H H' → φ H → φ H'
theorem Pers.tup {K : PySem.W.Frag} {a : Addr} {xs : List V} : Pers fun H => TupAt K H a xs := fun _ _ t h => h.keep t
theorem Pers.dt {K : PySem.W.Frag} {v : V} {d : PyData} : Pers fun H => Dt K H v d := fun _ _ t h => h.keep t
theorem Pers.all {K : PySem.W.Frag} {vs : List V} {ds : List PyData} : Pers fun H => DtAll K H vs ds := fun _ _ t h => Dt.keepAll t _ _ h
def isMut : HO → Prop
  | .tup _ => False
  | .ext _ => False
  | .frz _ (.tup _) => False
  | .tbl _ => False
  | _ => True
theorem mut_not {o : HO} (t : TupO o) (m : isMut o) : False := by
  unfold TupO at t
  unfold isMut at m
  split at t
  · exact m
  · exact m
  · exact m
  · exact t
theorem TK.exB {B : List Addr} {H H' : Hp} (e : ExB B H H') (m : ∀ a, a ∈ B → ∃ o, H a = some o ∧ isMut o) : TK H H' := by
  have key : ∀ a o, ¬ isMut o → H a = some o → H' a = some o := fun a o n h => e a o (fun z => by
    obtain ⟨u, h1, h2⟩ := m a z
    rw [h] at h1
    cases h1
    exact n h2) h
  refine ⟨fun a o t h => key a o (fun m => mut_not t m) h, fun p _ ⟨ps, h1, h2, h3⟩ => ⟨ps, key _ _ (fun z => z) h1, h2, fun pos cv hc => ?_⟩⟩
  obtain ⟨c, e1, e2⟩ := h3 pos cv hc
  exact ⟨c, e1, key _ _ (fun z => z) e2⟩
structure Stt (B : List Addr) (H0 : Hp) (L : List (Addr × HO)) (P : List (Hp → Prop)) (H : Hp) : Prop where
  ex : ∀ a o, a ∉ B → H0 a = some o → H a = some o
  own : ∀ p ∈ L, H p.1 = some p.2
  mu : ∀ p ∈ L, isMut p.2
  fr : ∀ p ∈ L, H0 p.1 = none ∨ p.1 ∈ B
  nd : (L.map (·.1)).Nodup
  ps : ∀ φ ∈ P, φ H
  pp : ∀ φ ∈ P, Pers φ
  tk : TK H0 H
section
variable {K : PySem.W.Frag} {B : List Addr} {H0 H H' : Hp} {L : List (Addr × HO)} {P : List (Hp → Prop)}
theorem Stt.init (H : Hp) : Stt [] H [] [] H := ⟨fun _ _ _ h => h, fun _ h => (List.not_mem_nil h).elim, fun _ h => (List.not_mem_nil h).elim, fun _ h => (List.not_mem_nil h).elim, List.nodup_nil, fun _ h => (List.not_mem_nil h).elim, fun _ h => (List.not_mem_nil h).elim, TK.refl H⟩
theorem Stt.start (B : List Addr) (L : List (Addr × HO)) (H : Hp) (h : ∀ p ∈ L, H p.1 = some p.2 ∧ isMut p.2) (e : L.map (·.1) = B) (nd : B.Nodup) : Stt B H L [] H :=
  ⟨fun _ _ _ h => h, fun p m => (h p m).1, fun p m => (h p m).2, fun p m => .inr (by rw [← e]; exact List.mem_map_of_mem m), by rw [e]; exact nd, fun _ h => (List.not_mem_nil h).elim, fun _ h => (List.not_mem_nil h).elim, TK.refl H⟩
theorem Stt.same (s : Stt [] H0 L P H) : Same H0 H := fun a o h => s.ex a o (by simp) h
theorem Stt.at (s : Stt B H0 L P H) (k : Nat) {a : Addr} {o : HO} (h : L[k]? = some (a, o)) : H a = some o := s.own (a, o) (List.mem_of_getElem? h)
theorem Stt.isNew (s : Stt [] H0 L P H) (k : Nat) {a : Addr} {o : HO} (h : L[k]? = some (a, o)) : H0 a = none := (s.fr (a, o) (List.mem_of_getElem? h)).resolve_right (by simp)
theorem Stt.ne (s : Stt B H0 L P H) (i j : Nat) {a b : Addr} {o o' : HO} (h : L[i]? = some (a, o)) (h' : L[j]? = some (b, o')) (n : i ≠ j) : a ≠ b := fun e => by
  have a1 : (L.map (·.1))[i]? = some a := by rw [List.getElem?_map, h]; rfl
  have a2 : (L.map (·.1))[j]? = some a := by rw [List.getElem?_map, h', e]; rfl
  exact n (nd_ix s.nd a1 a2)
theorem Stt.pers (s : Stt B H0 L P H) (k : Nat) {φ : Hp → Prop} (h : P[k]? = some φ) : φ H := s.ps φ (List.mem_of_getElem? h)
theorem Stt.tk_ps {P : List (Hp → Prop)} (pp : ∀ φ ∈ P, Pers φ) (ps : ∀ φ ∈ P, φ H) (t : TK H H') : ∀ φ ∈ P, φ H' := fun φ h => pp φ h _ _ t (ps φ h)
theorem Stt.ext (s : Stt B H0 L P H) (e : Same H H') : Stt B H0 L P H' :=
  ⟨fun a o h0 h => e a o (s.ex a o h0 h), fun p h => e _ _ (s.own p h), s.mu, s.fr, s.nd, Stt.tk_ps s.pp s.ps (TK.same e), s.pp, s.tk.trans (TK.same e)⟩
theorem Stt.know (s : Stt B H0 L P H) {φ : Hp → Prop} (h : φ H) (k : Pers φ) : Stt B H0 L (P ++ [φ]) H :=
  ⟨s.ex, s.own, s.mu, s.fr, s.nd, fun ψ m => by
    rcases List.mem_append.mp m with m | m
    · exact s.ps ψ m
    · rw [List.mem_singleton.mp m]; exact h, fun ψ m => by
    rcases List.mem_append.mp m with m | m
    · exact s.pp ψ m
    · rw [List.mem_singleton.mp m]; exact k, s.tk⟩
theorem Stt.fresh (s : Stt B H0 L P H) {p : Addr} {o : HO} (hp : H p = none) (e : Same H H') (h : H' p = some o) (m : isMut o) : Stt B H0 (L ++ [(p, o)]) P H' := by
  have s' := s.ext e
  refine ⟨s'.ex, fun q hq => ?_, fun q hq => ?_, fun q hq => ?_, ?_, s'.ps, s.pp, s'.tk⟩
  · rcases List.mem_append.mp hq with hq | hq
    · exact s'.own q hq
    · rw [List.mem_singleton.mp hq]; exact h
  · rcases List.mem_append.mp hq with hq | hq
    · exact s.mu q hq
    · rw [List.mem_singleton.mp hq]; exact m
  · rcases List.mem_append.mp hq with hq | hq
    · exact s.fr q hq
    · rw [List.mem_singleton.mp hq]
      by_cases hb : p ∈ B
      · exact .inr hb
      · left
        show H0 p = none
        cases q : H0 p with
        | none => rfl
        | some u =>
          have := s.ex p u hb q
          rw [hp] at this
          cases this
  · rw [List.map_append]
    refine List.nodup_append.mpr ⟨s.nd, by simp, ?_⟩
    intro a ha b hb
    have eb : b = p := by simpa using hb
    subst eb
    obtain ⟨q, hq, rfl⟩ := List.mem_map.mp ha
    intro e
    have := s.own q hq
    rw [e, hp] at this
    cases this
theorem Stt.new (s : Stt B H0 L P H) {p : Addr} {o : HO} (hp : H p = none) (m : isMut o) : Stt B H0 (L ++ [(p, o)]) P (upd H p o) := s.fresh hp (Same.new hp) upd_same m
theorem Stt.newT (K : PySem.W.Frag) (s : Stt B H0 L P H) {p : Addr} {xs : List V} (hp : H p = none) : Stt B H0 L (P ++ [fun H => TupAt K H p xs]) (upd H p (.tup xs)) :=
  (s.ext (Same.new hp)).know (.inl upd_same) Pers.tup
theorem Stt.upds {L1 L1' L2 : List (Addr × HO)} (s : Stt B H0 (L1 ++ L2) P H) (en : L1'.map (·.1) = L1.map (·.1)) (e : ExB (L1.map (·.1)) H H') (n : ∀ p ∈ L1', H' p.1 = some p.2) (m : ∀ p ∈ L1', isMut p.2) : Stt B H0 (L1' ++ L2) P H' := by
  have inL : ∀ {a}, a ∈ L1.map (·.1) → ∃ o, H a = some o ∧ isMut o := fun {a} ha => by
    obtain ⟨q, hq, rfl⟩ := List.mem_map.mp ha
    exact ⟨q.2, s.own q (List.mem_append_left _ hq), s.mu q (List.mem_append_left _ hq)⟩
  have nd := s.nd
  rw [List.map_append] at nd
  have t : TK H H' := TK.exB e fun a ha => inL ha
  refine ⟨fun a o hb h => ?_, fun q hq => ?_, fun q hq => ?_, fun q hq => ?_, ?_, Stt.tk_ps s.pp s.ps t, s.pp, s.tk.trans t⟩
  · refine e a o (fun z => ?_) (s.ex a o hb h)
    obtain ⟨q, hq, rfl⟩ := List.mem_map.mp z
    rcases s.fr q (List.mem_append_left _ hq) with f | f
    · rw [f] at h; cases h
    · exact hb f
  · rcases List.mem_append.mp hq with hq | hq
    · exact n q hq
    · refine e _ _ (fun z => ?_) (s.own q (List.mem_append_right _ hq))
      exact (List.nodup_append.mp nd).2.2 q.1 z q.1 (List.mem_map_of_mem hq) rfl
  · rcases List.mem_append.mp hq with hq | hq
    · exact m q hq
    · exact s.mu q (List.mem_append_right _ hq)
  · rcases List.mem_append.mp hq with hq | hq
    · have : q.1 ∈ L1.map (·.1) := by rw [← en]; exact List.mem_map_of_mem hq
      obtain ⟨q', hq', e'⟩ := List.mem_map.mp this
      have := s.fr q' (List.mem_append_left _ hq')
      rw [e'] at this
      exact this
    · exact s.fr q (List.mem_append_right _ hq)
  · rw [List.map_append, en]
    exact nd
theorem Stt.set (s : Stt B H0 L P H) (k : Nat) {l : Addr} {o o' : HO} (h : L[k]? = some (l, o)) (m : isMut o') : Stt B H0 (L.set k (l, o')) P (upd H l o') := by
  have hk : k < L.length := (List.getElem?_eq_some_iff.mp h).1
  have em : (L.set k (l, o')).map (·.1) = L.map (·.1) := by
    rw [List.map_set]
    refine List.ext_getElem? fun j => ?_
    by_cases hj : k = j
    · subst hj
      rw [List.getElem?_set_self (by simpa using hk), List.getElem?_map, h]
      rfl
    · rw [List.getElem?_set_ne hj]
  have hne : ∀ j q, j ≠ k → L[j]? = some q → q.1 ≠ l := fun j q hj hq e => by
    have a1 : (L.map (·.1))[j]? = some l := by rw [List.getElem?_map, hq, ← e]; rfl
    have a2 : (L.map (·.1))[k]? = some l := by rw [List.getElem?_map, h]; rfl
    exact hj (nd_ix s.nd a1 a2)
  have hl := s.at k h
  have ml := s.mu (l, o) (List.mem_of_getElem? h)
  have t : TK H (upd H l o') := TK.exB (B := [l]) (fun a u hb q => by
    rw [upd_ne fun e => hb (by rw [e]; exact List.mem_singleton_self _)]
    exact q) fun a ha => by
    rw [List.mem_singleton.mp ha]
    exact ⟨o, hl, ml⟩
  have cases' : ∀ q ∈ L.set k (l, o'), q = (l, o') ∨ (q ∈ L ∧ q.1 ≠ l) := fun q hq => by
    obtain ⟨j, hj⟩ := List.getElem?_of_mem hq
    by_cases e : k = j
    · subst e
      rw [List.getElem?_set_self hk] at hj
      exact .inl (Option.some.inj hj).symm
    · rw [List.getElem?_set_ne e] at hj
      exact .inr ⟨List.mem_of_getElem? hj, hne j q (Ne.symm e) hj⟩
  refine ⟨fun a u hb q => ?_, fun q hq => ?_, fun q hq => ?_, fun q hq => ?_, by rw [em]; exact s.nd, Stt.tk_ps s.pp s.ps t, s.pp, s.tk.trans t⟩
  · have : a ≠ l := fun e => by
      subst e
      rcases s.fr _ (List.mem_of_getElem? h) with f | f
      · rw [f] at q; cases q
      · exact hb f
    rw [upd_ne this]
    exact s.ex a u hb q
  · rcases cases' q hq with e | ⟨m', ne⟩
    · rw [e]; exact upd_same
    · rw [upd_ne ne]; exact s.own q m'
  · rcases cases' q hq with e | ⟨m', ne⟩
    · rw [e]; exact m
    · exact s.mu q m'
  · rcases cases' q hq with e | ⟨m', ne⟩
    · rw [e]; exact s.fr (l, o) (List.mem_of_getElem? h)
    · exact s.fr q m'
theorem Stt.sqL (s : Stt B H0 L P H) (k : Nat) {a : Addr} {xs : List V} (h : L[k]? = some (a, .lst xs)) : SqL K H a xs := SqL.of (s.at k h)
theorem Stt.sqT (s : Stt B H0 L P H) (k : Nat) {a : Addr} {xs : List V} (h : P[k]? = some (fun H => TupAt K H a xs)) : SqT K H a xs := (s.pers k h).sq
theorem Stt.picks {L' : List (Addr × HO)} (s : Stt B H0 L P H) (ks : List Nat) (hk : ks.Nodup) (e : ks.map (fun k => L[k]?) = L'.map some) : Stt B H0 L' P H := by
  have sub : ∀ p ∈ L', p ∈ L := fun p hp => by
    have : some p ∈ L'.map some := List.mem_map_of_mem hp
    rw [← e] at this
    obtain ⟨k, _, hk⟩ := List.mem_map.mp this
    exact List.mem_of_getElem? hk
  refine ⟨s.ex, fun p h => s.own p (sub p h), fun p h => s.mu p (sub p h), fun p h => s.fr p (sub p h), ?_, s.ps, s.pp, s.tk⟩
  have key : ∀ (ks : List Nat) (L' : List (Addr × HO)), ks.Nodup → ks.map (fun k => L[k]?) = L'.map some → (L'.map (·.1)).Nodup := by
    intro ks
    induction ks with
    | nil =>
      intro L' _ e
      cases L' with
      | nil => simp
      | cons a b => simp at e
    | cons k ks ih =>
      intro L' hk e
      cases L' with
      | nil => simp at e
      | cons p L' =>
        simp only [List.map_cons, List.cons.injEq] at e
        obtain ⟨hk1, hk2⟩ := List.nodup_cons.mp hk
        refine List.nodup_cons.mpr ⟨fun m => ?_, ih L' hk2 e.2⟩
        obtain ⟨q, hq, eq⟩ := List.mem_map.mp m
        have : some q ∈ L'.map some := List.mem_map_of_mem hq
        rw [← e.2] at this
        obtain ⟨k', hk', eq'⟩ := List.mem_map.mp this
        have a1 : (L.map (·.1))[k]? = some p.1 := by rw [List.getElem?_map, e.1]; rfl
        have a2 : (L.map (·.1))[k']? = some p.1 := by
          have eq2 : q.1 = p.1 := eq
          rw [List.getElem?_map, eq', ← eq2]; rfl
        have := nd_ix s.nd a1 a2
        subst this
        exact hk1 hk'
  exact key ks L' hk e
theorem Stt.only {P' : List (Hp → Prop)} (s : Stt B H0 L P H) (ks : List Nat) (e : ks.map (fun k => P[k]?) = P'.map some) : Stt B H0 L P' H := by
  have sub : ∀ p ∈ P', p ∈ P := fun p hp => by
    have : some p ∈ P'.map some := List.mem_map_of_mem hp
    rw [← e] at this
    obtain ⟨k, _, hk⟩ := List.mem_map.mp this
    exact List.mem_of_getElem? hk
  exact ⟨s.ex, s.own, s.mu, s.fr, s.nd, fun φ h => s.ps φ (sub φ h), fun φ h => s.pp φ (sub φ h), s.tk⟩
theorem Stt.forget (s : Stt B H0 L P H) : Stt B H0 L [] H := s.only [] rfl
end
section
variable {σ : St} {H : Hp} {D : Ends} {nx bk ct : St → Hp → Prop} {rt : VK} {Q : VK} {x y v : V} {ta tb tc te tx : TE} {t u : TS} {tr : TA} {r r' : R2} {K : PySem.W.Frag}
theorem i_seq (h : t ⟨u ⟨nx, rt, bk, ct⟩, rt, bk, ct⟩ σ H) : tSeq t u ⟨nx, rt, bk, ct⟩ σ H := h
theorem i_asg {g : TG} (h : te σ H fun x H1 => g x σ H1 nx) : tAsg te g ⟨nx, rt, bk, ct⟩ σ H := h
theorem i_name {i : Nat} {N : St → Hp → Prop} (h : N (σ.set i (some v)) H) : gName i v σ H N := h
theorem i_if {c : TT} (h : c σ H fun b H1 => if b = true then t D σ H1 else u D σ H1) : tIfS c t u D σ H := h
theorem i_ret (h : te σ H rt) : tRet te ⟨nx, rt, bk, ct⟩ σ H := h
theorem i_retN (h : rt .non H) : tRetN ⟨nx, rt, bk, ct⟩ σ H := h
theorem i_next (h : nx σ H) : tNext ⟨nx, rt, bk, ct⟩ σ H := h
theorem i_brk (h : bk σ H) : tBreak ⟨nx, rt, bk, ct⟩ σ H := h
theorem i_cont (h : ct σ H) : tCont ⟨nx, rt, bk, ct⟩ σ H := h
theorem i_drop (h : te σ H fun _ H1 => nx σ H1) : tDrop te ⟨nx, rt, bk, ct⟩ σ H := h
theorem i_var {i : Nat} (e : σ[i]? = some (some v)) (h : Q v H) : tVar i σ H Q := ⟨v, e, h⟩
theorem i_c (h : Q v H) : tC v σ H Q := h
theorem i_op (h : ta σ H fun x H1 => tb σ H1 fun y H2 => r x y H2 Q) : tOp r ta tb σ H Q := h
theorem i_un {r : V → Hp → VK → Prop} (h : ta σ H fun x H1 => r x H1 Q) : tUn r ta σ H Q := h
theorem i_I0 {g : Int → Int → V} {i j : Int} (h : Q (g i j) H) : rI0 g (.int i) (.int j) H Q := ⟨i, j, rfl, rfl, h⟩
theorem i_I {C : Int → Int → Prop} {g : Int → Int → V} {i j : Int} (c : C i j) (h : Q (g i j) H) : rI C g (.int i) (.int j) H Q := ⟨i, j, rfl, rfl, c, h⟩
theorem i_U {g : Int → V} {i : Int} (h : Q (g i) H) : rU g (.int i) H Q := ⟨i, rfl, h⟩
theorem i_eqI {i j : Int} (h : Q (.bl (decide (i = j))) H) : rEq (.int i) (.int j) H Q := ⟨rfl, by simpa using h⟩
theorem i_neI {i j : Int} (h : Q (.bl (!decide (i = j))) H) : rNe (.int i) (.int j) H Q := ⟨rfl, by simpa using h⟩
theorem i_eqS {i j : Str} (h : Q (.bl (decide (i = j))) H) : rEq (.str i) (.str j) H Q := ⟨rfl, by simpa using h⟩
theorem i_neS {i j : Str} (h : Q (.bl (!decide (i = j))) H) : rNe (.str i) (.str j) H Q := ⟨rfl, by simpa using h⟩
theorem i_eqB {i j : Bool} (h : Q (.bl (decide (i = j))) H) : rEq (.bl i) (.bl j) H Q := ⟨rfl, by simpa using h⟩
theorem i_neB {i j : Bool} (h : Q (.bl (!decide (i = j))) H) : rNe (.bl i) (.bl j) H Q := ⟨rfl, by simpa using h⟩
theorem i_test {N : Bool → Hp → Prop} (h : te σ H fun x H' => ∃ k, x = .bl k ∧ N k H') : tTest te σ H N := h
theorem i_tB {N : Bool → Hp → Prop} (h : te σ H fun x H' => ∃ k, x = .bl k ∧ N k H') : tB te σ H N := h
theorem i_bl {b : Bool} {N : Bool → Prop} (h : N b) : ∃ k, V.bl b = V.bl k ∧ N k := ⟨b, rfl, h⟩
theorem i_and {t1 t2 : TT} {N : Bool → Hp → Prop} (h : t1 σ H fun c H1 => if c = true then t2 σ H1 N else N false H1) : tAnd t1 t2 σ H N := h
theorem i_or {t1 t2 : TT} {N : Bool → Hp → Prop} (h : t1 σ H fun c H1 => if c = true then N true H1 else t2 σ H1 N) : tOr t1 t2 σ H N := h
theorem i_not {t1 : TT} {N : Bool → Hp → Prop} (h : t1 σ H fun c H1 => N (!c) H1) : tNot t1 σ H N := h
theorem i_andV (h : ta σ H fun x H1 => ∃ c, x = .bl c ∧ if c = true then tb σ H1 Q else Q (.bl false) H1) : tAndV ta tb σ H Q := h
theorem i_orV (h : ta σ H fun x H1 => ∃ c, x = .bl c ∧ if c = true then Q (.bl true) H1 else tb σ H1 Q) : tOrV ta tb σ H Q := h
theorem i_notV (h : ta σ H fun x H1 => ∃ c, x = .bl c ∧ Q (.bl (!c)) H1) : tNotV ta σ H Q := h
theorem i_ifE {c : TT} (h : c σ H fun b H1 => if b = true then ta σ H1 Q else tb σ H1 Q) : tIf c ta tb σ H Q := h
theorem i_chain (h : ta σ H fun x H1 => tb σ H1 fun y H2 => r x y H2 fun z H3 => ∃ k, z = .bl k ∧ (if k = true then tc σ H3 fun w' H4 => r' y w' H4 Q else Q (.bl false) H3)) : tChain r r' ta tb tc σ H Q := h
theorem i_nil {N : List V → Hp → Prop} (h : N [] H) : tNil σ H N := h
theorem i_cons {N : List V → Hp → Prop} (h : te σ H fun x H1 => tr σ H1 fun xs H2 => N (x :: xs) H2) : tCons te tr σ H N := h
theorem i_cb {r : List V → Hp → VK → Prop} (h : tr σ H fun vs H1 => r vs H1 Q) : tCB r tr σ H Q := h
theorem i_call {sp : Sp} {E : XK} (h : tr σ H fun vs H1 => sp vs H1 Q E) : tCall sp [] E tr σ H Q := by
  have e : (fun (vs : List V) H1 => sp (vs ++ []) H1 Q E) = fun vs H1 => sp vs H1 Q E := by
    funext vs H1
    rw [List.append_nil]
  show tr σ H fun vs H1 => sp (vs ++ []) H1 Q E
  rw [e]
  exact h
theorem i_tup (h : tr σ H fun xs H1 => xs.length ≤ sizeLine ∧ ∀ p, H1 p = none → Q (.ref p) (upd H1 p (.tup xs))) : tTup tr σ H Q := h
theorem i_lst (h : tr σ H fun xs H1 => xs.length ≤ sizeLine ∧ ∀ p, H1 p = none → Q (.ref p) (upd H1 p (.lst xs))) : tLst tr σ H Q := h
theorem i_ixL {p : Addr} {xs : List V} {i : Int} (h : SqL K H p xs) (e : atI xs i = some v) (q : Q v H) : rIxL K (.ref p) (.int i) H Q := ⟨p, xs, i, v, rfl, rfl, h, e, q⟩
theorem i_ixT {p : Addr} {xs : List V} {i : Int} (h : SqT K H p xs) (e : atI xs i = some v) (q : Q v H) : rIxT K (.ref p) (.int i) H Q := ⟨p, xs, i, v, rfl, rfl, h, e, q⟩
def rLen (K : PySem.W.Frag) : List V → Hp → VK → Prop := fun xs H Q => ∃ x n, xs = [x] ∧ LenV K x H n ∧ Q (.int n) H
theorem f_len {X : Cx} : CallR X (.builtin "len") (rLen X.K) := call_len
theorem i_lenL {p : Addr} {xs : List V} (h : SqL K H p xs) (q : Q (.int (xs.length : Int)) H) : rLen K [.ref p] H Q := ⟨_, _, rfl, .inl ⟨xs, h, rfl⟩, q⟩
theorem i_lenS {z : Str} (h : z.length ≤ sizeLine) (q : Q (.int (z.length : Int)) H) : rLen K [.str z] H Q := ⟨_, _, rfl, ⟨h, rfl⟩, q⟩
def rMax2 : List V → Hp → VK → Prop := fun xs H Q => ∃ i j, xs = [.int i, .int j] ∧ Q (.int (max i j)) H
def rMin2 : List V → Hp → VK → Prop := fun xs H Q => ∃ i j, xs = [.int i, .int j] ∧ Q (.int (min i j)) H
def rInt1 : List V → Hp → VK → Prop := fun xs H Q => ∃ i, xs = [.int i] ∧ Q (.int i) H
theorem f_int {X : Cx} : CallR X (.type "int") rInt1 := fun pins s σ H xs us Q I r h => by
  obtain ⟨i, e, q⟩ := h
  exact call_int1 pins s σ H xs us Q I r (.inl ⟨i, e, q⟩)
theorem i_max {i j : Int} (q : Q (.int (max i j)) H) : rMax2 [.int i, .int j] H Q := ⟨i, j, rfl, q⟩
theorem i_min {i j : Int} (q : Q (.int (min i j)) H) : rMin2 [.int i, .int j] H Q := ⟨i, j, rfl, q⟩
theorem i_int {i : Int} (q : Q (.int i) H) : rInt1 [.int i] H Q := ⟨i, rfl, q⟩
theorem i_gtup {a : Addr} {xs : List V} {n : Nat} {g : TGs} {N : St → Hp → Prop} (h : SqT K H a xs) (e : xs.length = n) (q : g xs σ H N) : gTup K n g (.ref a) σ H N := ⟨a, xs, rfl, h, e, q⟩
theorem i_gcons {g : TG} {gs : TGs} {vs : List V} {N : St → Hp → Prop} (q : g v σ H fun σ' H' => gs vs σ' H' N) : gCons g gs (v :: vs) σ H N := ⟨v, vs, rfl, q⟩
theorem i_gnil {N : St → Hp → Prop} (q : N σ H) : gNil [] σ H N := ⟨rfl, q⟩
def ForIt (J : It) (g : TG) (tb : TS) (D : Ends) (σ : St) (H : Hp) : Prop := tFor (fun _ H R => R J H) g tb D σ H
theorem i_for {wi : TI} {g : TG} {tb : TS} (h : wi σ H fun J H1 => ForIt J g tb D σ H1) : tFor wi g tb D σ H := h
theorem ForIt.go {J : It} {n : Nat} {G : Hp → Prop} {Y : Nat → Hp → V → Hp → Prop} {g : TG} {tb : TS} (w : Walk J n G Y) (Pv : Nat → St → Hp → Prop) (h0 : Pv 0 σ H) (hG : ∀ i σ H, i ≤ n → Pv i σ H → G H)
    (hs : ∀ i x σ H H', i < n → Pv i σ H → Y i H x H' → g x σ H' fun σ2 H2 => tb ⟨Pv (i + 1), rt, nx, Pv (i + 1)⟩ σ2 H2) (hd : ∀ σ H, Pv n σ H → nx σ H) : ForIt J g tb ⟨nx, rt, bk, ct⟩ σ H :=
  for_it w (D := ⟨nx, rt, bk, ct⟩) Pv h0 hG hs hd
theorem i_iL {R : It → Hp → Prop} (h : te σ H fun x H1 => ∃ a, x = .ref a ∧ (∃ xs, SqL K H1 a xs) ∧ R (Itl K a) H1) : iList K te σ H R := h
theorem i_iT {R : It → Hp → Prop} (h : te σ H fun x H1 => ∃ a, x = .ref a ∧ (∃ xs, SqT K H1 a xs) ∧ R (Itt K a) H1) : iTup K te σ H R := h
theorem i_iR {R : It → Hp → Prop} (h : tr σ H fun vs H1 => ∃ j : Int, vs = [.int j] ∧ -(2 ^ 62) ≤ j ∧ j < 2 ^ 62 ∧ R (Itr 0 j.toNat) H1) : iRng1 tr σ H R := h
theorem i_iE {R : It → Hp → Prop} (h : tr σ H fun vs H1 => ∃ kd a xs, vs = [.ref a] ∧ SqB kd K H1 a xs ∧ R (ItE kd K a) H1) : iEnumB K tr σ H R := h
theorem i_iZ {R : It → Hp → Prop} (h : tr σ H fun vs H1 => ∃ k1 k2 a b xs ys, vs = [.ref a, .ref b] ∧ SqB k1 K H1 a xs ∧ SqB k2 K H1 b ys ∧ R (ItZ k1 k2 K a b) H1) : iZipB K tr σ H R := h
def LcIt (J : It) (g : TG) (tt : TT) (te : TE) (vs : List Nat) (σ : St) (H : Hp) (Q : VK) : Prop := tLc (fun _ H R => R J H) g tt te vs σ H Q
theorem i_lc {wi : TI} {g : TG} {tt : TT} {vs : List Nat} (h : wi σ H fun J H1 => LcIt J g tt te vs σ H1 Q) : tLc wi g tt te vs σ H Q := h
theorem LcIt.go {J : It} {n : Nat} {G : Hp → Prop} {Y : Nat → Hp → V → Hp → Prop} {g : TG} {tt : TT} {vs : List Nat} (w : Walk J n G Y) (Pv : Addr → Nat → Hp → Prop) (h0 : ∀ D, H D = none → Pv D 0 (upd H D (.lst []))) (hG : ∀ D i H, i ≤ n → Pv D i H → G H)
    (hs : ∀ D i x H H', i < n → Pv D i H → Y i H x H' → g x (wipe σ vs) H' fun σ2 H2 => wipe σ2 vs = wipe σ vs ∧ tt σ2 H2 fun b H3 =>
      if b = true then te σ2 H3 fun y H4 => ∃ acc, H4 D = some (.lst acc) ∧ acc.length < sizeLine ∧ Pv D (i + 1) (upd H4 D (.lst (acc ++ [y]))) else Pv D (i + 1) H3) (hd : ∀ D H', Pv D n H' → Q (.ref D) H') : LcIt J g tt te vs σ H Q :=
  fun D hD => lc_it w (Pv D) (h0 D hD) (hG D) (hs D) (hd D)
theorem LcIt.map {J : It} {n : Nat} {G : Hp → Prop} {Y : Nat → Hp → V → Hp → Prop} {g : TG} {vs : List Nat} (w : Walk J n G Y) (ys : List V) (hn : ys.length = n) (hz : n < sizeLine) (hG : ∀ H', Same H H' → G H')
    (hs : ∀ i x y H1 H' (N : VK), i < n → ys[i]? = some y → Same H H1 → Y i H1 x H' → (∀ H4, Same H1 H4 → N y H4) → g x (wipe σ vs) H' fun σ2 H2 => wipe σ2 vs = wipe σ vs ∧ te σ2 H2 N)
    (hd : ∀ D H', H D = none → Same H H' → H' D = some (.lst ys) → Q (.ref D) H') : LcIt J g tYes te vs σ H Q := by
  refine LcIt.go w (fun D i H' => H D = none ∧ Same H H' ∧ H' D = some (.lst (ys.take i))) (fun D hD => ⟨hD, Same.new hD, by rw [upd_same]; rfl⟩) (fun D i H' _ p => hG H' p.2.1) ?_ (fun D H' p => hd D H' p.1 p.2.1 (by rw [p.2.2, List.take_of_length_le (by omega)]))
  intro D i x H1 H' hi p hy
  have hil : i < ys.length := by omega
  obtain ⟨p1, p2, p3⟩ := p
  exact hs i x (ys[i]) H1 H' _ hi (by simp [hil]) p2 hy fun H4 e4 => ⟨ys.take i, e4 _ _ p3, by rw [List.length_take]; omega, p1, (fun a o h => by
    rw [upd_ne (ne_of_none h p1)]
    exact e4 a o (p2 a o h)), by rw [upd_same, List.take_succ, List.getElem?_eq_getElem hil]; rfl⟩
end
end Fb
set_option maxHeartbeats 4000000
namespace Fb
open PySem PySem.Spec PyProof.Rows L2
structure DefIn (K : PySem.W.Frag) (mg : Str → Option Value) (x qual : Str) (st : Stmt) : Prop where
  ex : ∃ f fd, Fun K x qual st f fd ∧ mg x = some (.ref f)
structure Cal (P : Program) (w : World) (K : PySem.W.Frag) (mg : Str → Option Value) (base : Heap) (k : Nat) (x : Str) (sp : Sp) : Prop where
  ex : ∃ (f : Addr) (fd : FuncData) (ps : List Str), FnOk P w K mg base (L2N.CX P w) k f fd ps sp ∧ mg x = some (.ref f) ∧ PySem.W.keepIn K (.ref f) = true ∧ Binds K fd ps []
section
variable {P : Program} {w : World} {K : PySem.W.Frag} {mg : Str → Option Value} {base : Heap}
theorem Cal.mono {j k : Nat} {x : Str} {sp : Sp} (c : Cal P w K mg base j x sp) (h : j ≤ k) : Cal P w K mg base k x sp := by
  obtain ⟨f, fd, ps, F, r⟩ := c.ex
  exact ⟨f, fd, ps, F.mono h, r⟩
theorem fin_of {st : Stmt} {fa : Addr} {x : Str} {k : Nat} {sp : Sp} (D : DefIn K mg "law" "law" st) (h : mg "law" = some (.ref fa))
    (b : ∀ (kV doc pm : Value) (an : Option Addr) (cdv ct : Value) (us : List Value), us.length = 1 → bindArgs (PySem.W.fnOf "law" "law" (defArgs st) (defBody st) (defScope st) .none kV doc pm an cdv ct) ⟨us, []⟩ = pure ([x].zip us))
    (F : ∀ (base : Heap) (f : Addr) (fd : FuncData), Fun K "law" "law" st f fd → FnOk P w K mg base (L2N.CX P w) k f fd [x] sp) :
    ∃ fd : FuncData, (∀ (s : Shared) (u : Value), BindsTo s fd ⟨[u], []⟩ [(x, u)]) ∧ ∀ base : Heap, K.In base → base.Ns mainGlobals mg → FnOk P w K mg base (L2N.CX P w) k fa fd [x] sp := by
  obtain ⟨f, fd, Fu, hm⟩ := D.ex
  rw [h] at hm
  cases hm
  refine ⟨fd, fun s u => ?_, fun base _ _ => F base fa fd Fu⟩
  obtain ⟨oc, od, kV, doc, pm, an, cdv, ct, osl, rfl, lk, hcd⟩ := Fu.ex
  exact .of_eq (b kV doc pm an cdv ct [u] rfl)
theorem cal_of {x : Str} {st : Stmt} {N ps : List Str} {k : Nat} {sp : Sp} (D : DefIn K mg x x st) (S : FnScope N ps (defScope st))
    (b : ∀ (kV doc pm : Value) (an : Option Addr) (cdv ct : Value) (us : List Value), us.length = ps.length → bindArgs (PySem.W.fnOf x x (defArgs st) (defBody st) (defScope st) .none kV doc pm an cdv ct) ⟨us, []⟩ = pure (ps.zip us))
    (len : ∀ vs H Q E, sp vs H Q E → vs.length = ps.length)
    (hbody : ∀ (f : Addr) (cdv : Value) (A : Around) (outer : List Env) (s : Shared) (H : Hp) (vs : List V) (Q : VK) (E : XK), Room k (A.deeper (envOfC x (defScope st) s.heap.objs.size f cdv)) → sp vs H Q E →
      ∃ t, PSs (cxOf (L2N.CX P w) P w K mg base N x (defScope st) f cdv A outer s H E).nox (defBody st) t ∧ t { nx := fun _ H' => Q .non H', rt := Q } (start N vs) H) : Cal P w K mg base (k + 1) x sp := by
  obtain ⟨f, fd, F, hm⟩ := D.ex
  exact ⟨f, fd, ps, F.okN S len (fun cdv A outer s H vs Q E hr h => by
    obtain ⟨t, p, q⟩ := hbody f cdv A outer s H vs Q E hr h
    exact ⟨t, p.nox, q⟩), hm, F.kp, F.binds b⟩
theorem cal_ofX {x : Str} {st : Stmt} {N ps : List Str} {k : Nat} {sp : Sp} (D : DefIn K mg x x st) (S : FnScope N ps (defScope st))
    (b : ∀ (kV doc pm : Value) (an : Option Addr) (cdv ct : Value) (us : List Value), us.length = ps.length → bindArgs (PySem.W.fnOf x x (defArgs st) (defBody st) (defScope st) .none kV doc pm an cdv ct) ⟨us, []⟩ = pure (ps.zip us))
    (len : ∀ vs H Q E, sp vs H Q E → vs.length = ps.length)
    (hbody : ∀ (f : Addr) (cdv : Value) (A : Around) (outer : List Env) (s : Shared) (H : Hp) (vs : List V) (Q : VK) (E : XK), Room k (A.deeper (envOfC x (defScope st) s.heap.objs.size f cdv)) → sp vs H Q E →
      ∃ t, PSs (cxOf (L2N.CX P w) P w K mg base N x (defScope st) f cdv A outer s H E) (defBody st) t ∧ t { nx := fun _ H' => Q .non H', rt := Q } (start N vs) H) : Cal P w K mg base (k + 1) x sp := by
  obtain ⟨f, fd, F, hm⟩ := D.ex
  exact ⟨f, fd, ps, F.okN S len (hbody f), hm, F.kp, F.binds b⟩
end
section
variable {X : Cx} {k j : Nat} {x : Str} {sp : Sp} {p pos : Pos} {e : Expr} {es : List Expr} {t : TA}
theorem pc (c : Cal X.prog X.w X.K X.mg X.base k x sp) (hr : Room j X.A) (hk : k ≤ j) (ha : PA X (e :: es) t) (hg : Gl X x := by rfl)
    (hdb : (x == ("__debug__" : Str)) = false := by decide) (he : starEach (e :: es) X.env = (false, eval e X.env) :: starEach es X.env := by rfl) (hpl : (backTo pos (starEach es X.env)).any (·.1) = false := by rfl) :
    PE X (.Call (.Name x p) (e :: es) [] pos) (tCall sp [] E0 t) := by
  obtain ⟨f, fd, ps, F, hm, kp, b⟩ := c.ex
  exact pe_call F (hr.mono hk) hg hm kp b .nil passL ha hdb he hpl
end
theorem i_augS {σ : L2.St} {H : Hp} {nx bk ct : L2.St → Hp → Prop} {rt : VK} {to ti te : TE} {tget : V → V → Hp → VK → Prop} {tip : TIp} {tset : TSet} (h : to σ H fun o H1 => ti σ H1 fun i H2 => tget o i H2 fun x H3 => te σ H3 fun y H4 => tip x y H4 fun z H5 => tset o i z H5 fun H6 => nx σ H6) : tAugS to ti te tget tip tset ⟨nx, rt, bk, ct⟩ σ H := h
theorem i_ipI {f : Int → Int → Int} {i j : Int} {H : Hp} {Q : VK} (h : Q (.int (f i j)) H) : ipI f (.int i) (.int j) H Q := ⟨i, j, rfl, rfl, h⟩
theorem i_aug {i : Nat} {te : TE} {ti : TIp} {x : V} {σ : L2.St} {H : Hp} {nx bk ct : L2.St → Hp → Prop} {rt : VK} (e : σ[i]? = some (some x)) (h : te σ H fun y H1 => ti x y H1 fun z H2 => nx (σ.set i (some z)) H2) : tAug i te ti ⟨nx, rt, bk, ct⟩ σ H := ⟨x, e, h⟩
end Fb
set_option maxHeartbeats 4000000
namespace Fb
open PySem PySem.Spec PyProof.Rows L2
section
variable {K : PySem.W.Frag} {B : List Addr} {H0 H : Hp} {L : List (Addr × HO)} {P : List (Hp → Prop)} {Q : VK} {σ : L2.St} {te : TE} {tr : TA}
theorem sz_of {n : Nat} (h : n ≤ 100000) : n ≤ sizeLine := Nat.le_trans h (by decide)
theorem sz_lt {n : Nat} (h : n < 100000) : n < sizeLine := Nat.lt_of_lt_of_le h (by decide)
theorem st_newL (s : Stt B H0 L P H) {xs : List V} {R : Addr → Prop} (hz : xs.length ≤ 100000) (k : ∀ p, H p = none → Stt B H0 (L ++ [(p, .lst xs)]) P (upd H p (.lst xs)) → R p) : xs.length ≤ sizeLine ∧ ∀ p, H p = none → R p :=
  ⟨sz_of hz, fun p hp => k p hp (s.new hp trivial)⟩
theorem st_newT (K : PySem.W.Frag) (s : Stt B H0 L P H) {xs : List V} {R : Addr → Prop} (hz : xs.length ≤ 100000) (k : ∀ p, H p = none → Stt B H0 L (P ++ [fun H => TupAt K H p xs]) (upd H p (.tup xs)) → R p) : xs.length ≤ sizeLine ∧ ∀ p, H p = none → R p :=
  ⟨sz_of hz, fun p hp => k p hp (s.newT K hp)⟩
theorem st_new (s : Stt B H0 L P H) {o : HO} {N : Addr → Hp → Prop} (m : isMut o) (k : ∀ p H', H p = none → Same H H' → Stt B H0 (L ++ [(p, o)]) P H' → N p H') : ∀ p, H p = none → N p (upd H p o) :=
  fun p hp => k p _ hp (Same.new hp) (s.new hp m)
theorem st_cat (s : Stt B H0 L P H) {l b : Addr} {xs zs : List V} (h1 : H l = some (.lst xs)) (h2 : H b = some (.lst zs)) (hz : xs.length + zs.length ≤ 100000) (k : ∀ p H', H p = none → Same H H' → Stt B H0 (L ++ [(p, .lst (xs ++ zs))]) P H' → Q (.ref p) H') : rCat (.ref l) (.ref b) H Q :=
  ⟨l, b, xs, zs, rfl, rfl, h1, h2, sz_of hz, st_new s trivial k⟩
theorem st_rep (s : Stt B H0 L P H) {l : Addr} {x : V} {n : Int} (h1 : H l = some (.lst [x])) (hn : n ≤ 100000) (hm : -100000 ≤ n) (k : ∀ p H', H p = none → Same H H' → Stt B H0 (L ++ [(p, .lst (List.replicate n.toNat x))]) P H' → Q (.ref p) H') : rRep (.ref l) (.int n) H Q := by
  have e : (List.replicate n.toNat [x]).flatten = List.replicate n.toNat x := by
    generalize n.toNat = m
    induction m with
    | zero => rfl
    | succ m ih => rw [List.replicate_succ, List.flatten_cons, ih]; rfl
  refine ⟨l, n, [x], rfl, rfl, h1, by omega, by omega, sz_of (by simp; omega), ?_⟩
  rw [e]
  exact st_new s trivial k
theorem i_bm {T : String} {r : V → List V → Hp → VK → Prop} (h : te σ H fun x H1 => tyV K T x H1 ∧ tr σ H1 fun xs H2 => r x xs H2 Q) : tBM K T r te tr σ H Q := h
theorem i_bm0 {T : String} {r : V → List V → Hp → VK → Prop} (h : te σ H fun x H1 => tyV K T x H1 ∧ r x [] H1 Q) : tBM0 K T r te σ H Q := h
theorem i_tyL {a : Addr} {xs : List V} {N : Prop} (h : SqL K H a xs) (n : N) : tyV K "list" (.ref a) H ∧ N := ⟨.inl ⟨rfl, xs, h⟩, n⟩
theorem st_setL (s : Stt B H0 L P H) (i : Nat) {l : Addr} {xs : List V} {n : Int} {j : Nat} {v : V} {N : Hp → Prop} (e : L[i]? = some (l, .lst xs)) (hj : ixN xs.length n = some j) (k : ∀ H', Stt B H0 (L.set i (l, .lst (xs.set j v))) P H' → N H') : rSetL (.ref l) (.int n) v H N :=
  ⟨l, xs, n, j, rfl, rfl, s.at i e, hj, k _ (s.set i e trivial)⟩
theorem ixN_nat {n : Nat} {i : Int} (h0 : 0 ≤ i) (h : i < n) : ixN n i = some i.toNat := by
  unfold ixN
  rw [if_pos h0, if_pos h]
theorem atI_int {α : Type} {xs : List α} {i : Int} {v : α} (h0 : 0 ≤ i) (h : xs[i.toNat]? = some v) : atI xs i = some v := by
  have hl : i.toNat < xs.length := (List.getElem?_eq_some_iff.mp h).1
  unfold atI
  rw [ixN_nat h0 (by omega)]
  exact h
theorem sqBL {a : Addr} {xs : List V} (h : SqL K H a xs) : SqB true K H a xs := h
def rInC : R2 := fun x y H Q => ∃ (c : Nat) (z : Str), x = .str ⟨#[c]⟩ ∧ y = .str z ∧ Q (.bl (decide (c ∈ z.cps.toList))) H
theorem op_inC {X : Cx} : OpR X (compareOp .In) rInC := op_in_sign
theorem i_inC {c : Nat} {z : Str} (q : Q (.bl (decide (c ∈ z.cps.toList))) H) : rInC (.str ⟨#[c]⟩) (.str z) H Q := ⟨c, z, rfl, rfl, q⟩
theorem i_iS {R : It → Hp → Prop} (h : te σ H fun v H1 => ∃ x, v = .str x ∧ R (Its x) H1) : iStr te σ H R := h
theorem i_lenSet (h : te σ H fun x H1 => ∃ (l : Addr) (ns : List Int), x = .ref l ∧ SqL K H1 l (ns.map V.int) ∧ ns.Nodup ∧ ns.length ≤ 4000 ∧ Q (.int (ns.length : Nat)) H1) : RZ.tLenSetI K te σ H Q := h
def rTuple (K : PySem.W.Frag) : List V → Hp → VK → Prop := fun xs H Q => ∃ p ys, xs = [.ref p] ∧ ((SqL K H p ys ∧ ∀ l, H l = none → Q (.ref l) (upd H l (.tup ys))) ∨ (SqT K H p ys ∧ Q (.ref p) H))
theorem f_tuple {X : Cx} : CallR X (.type "tuple") (rTuple X.K) := call_tuple_of
theorem st_tupleL (s : Stt B H0 L P H) {p : Addr} {ys : List V} (h : SqL K H p ys) (k : ∀ l H', H l = none → Stt B H0 L (P ++ [fun H => TupAt K H l ys]) H' → Q (.ref l) H') : rTuple K [.ref p] H Q := ⟨p, ys, rfl, .inl ⟨h, fun l hl => k l _ hl (s.newT K hl)⟩⟩
section
variable {X : Cx} {e : Expr} {es : List Expr} {pos : Pos} {tg : Expr} {f : Str}
theorem k_len (h : X.K = K) : CallR X (.builtin "len") (rLen K) := h ▸ f_len
theorem k_tuple (h : X.K = K) : CallR X (.type "tuple") (rTuple K) := h ▸ f_tuple
theorem k_ixL (h : X.K = K) : IxR X (rIxL K) := h ▸ ix_list
theorem k_ixT (h : X.K = K) : IxR X (rIxT K) := h ▸ ix_tup
theorem k_in (h : X.K = K) : OpR X (compareOp .In) (rIn K false) := h ▸ op_in_seq
theorem k_nin (h : X.K = K) : OpR X (compareOp .NotIn) (rIn K true) := h ▸ op_notIn_seq
theorem k_fld (h : X.K = K) (he : PE X e te) (hb : attributeBase e f X.env (eval e X.env) = eval e X.env) : PE X (.Attribute e f pos) (tFld K te f) := h ▸ pe_fld he hb
theorem k_pl (h : X.K = K) (he : PE X e te) : PI X tg e (iList K te) := h ▸ pi_list he
theorem k_pt (h : X.K = K) (he : PE X e te) : PI X tg e (iTup K te) := h ▸ pi_tup he
theorem k_tg {n : Nat} {k : Nat} {t : TGs} (h : X.K = K) (hc : X.calm = true) (p : PGs X es t) (hn : (assignEach es X.env).length = n := by rfl) (hst : (assignEach es X.env).findIdx? (·.1) = none := by rfl) : PG X (.Tuple es k pos) (gTup K n t) := h ▸ pg_tup hc p hn hst
theorem k_enum {elts : List Expr} {kk : Nat} {tpos p : Pos} (h : X.K = K) (hg : Gl X "enumerate") (hm : X.mg "enumerate" = none) (ha : PA X [e] tr) (hs : starEach [e] X.env = [(false, eval e X.env)] := by rfl) : PI X (.Tuple elts kk tpos) (.Call (.Name "enumerate" p) [e] [] pos) (iEnumB K tr) := h ▸ pi_enumB hg hm ha hs
end
theorem atI_mem {α : Type} {xs : List α} {i : Int} (h0 : 0 ≤ i) (h : i < xs.length) : ∃ v, atI xs i = some v ∧ v ∈ xs := by
  have hl : i.toNat < xs.length := by omega
  exact ⟨xs[i.toNat], atI_int h0 (List.getElem?_eq_getElem hl), List.getElem_mem hl⟩
theorem i_gsub {to ti : TE} {t : TSet} {v : V} {N : L2.St → Hp → Prop} (h : to σ H fun o H1 => ti σ H1 fun i H2 => t o i v H2 fun H3 => N σ H3) : gSub to ti t v σ H N := h
def EqDD (K : PySem.W.Frag) (H : Hp) (x y : V) : Prop := ∃ a b ks ls, x = .ref a ∧ y = .ref b ∧ H a = some (.dK ks) ∧ H b = some (.dK ls) ∧ ks.length = ls.length ∧ ∀ p ∈ ks, ∃ u d, valV ls p.1 = some u ∧ Dt K H p.2 d ∧ Dt K H u d ∧ d.canLay0 = true ∧ d.depth ≤ 8 ∧ PyData.eqv d d = true
theorem EqDD.same {H' : Hp} {x y : V} (e : Same H H') (h : EqDD K H x y) : EqDD K H' x y := by
  obtain ⟨a, b, ks, ls, e1, e2, h1, h2, hl, hp⟩ := h
  exact ⟨a, b, ks, ls, e1, e2, e _ _ h1, e _ _ h2, hl, fun p hm => let ⟨u, d, g1, g2, g3, g4⟩ := hp p hm; ⟨u, d, g1, Dt.keep (TK.same e) _ _ g2, Dt.keep (TK.same e) _ _ g3, g4⟩⟩
theorem SqB.seq {kd : Bool} {H' : Hp} {a : Addr} {xs : List V} (e : Same H H') (h : SqB kd K H a xs) : SqB kd K H' a xs := by
  cases kd
  · rcases (show SqT K H a xs from h) with (h | ⟨o, h⟩) | h
    · exact SqT.of (e _ _ h)
    · exact .inl (.inr ⟨o, e _ _ h⟩)
    · exact .inr h
  · exact e.seq h
theorem i_yes {N : Bool → Hp → Prop} (h : N true H) : tYes σ H N := h
theorem i_par {i j : Nat} {ta : TA} {nx bk ct : L2.St → Hp → Prop} {rt : VK} (h : ta σ H fun vs H1 => ∃ v w, vs = [v, w] ∧ nx ((σ.set i (some v)).set j (some w)) H1) : tPar i j ta ⟨nx, rt, bk, ct⟩ σ H := h
theorem i_par3 {i j l : Nat} {ta : TA} {nx bk ct : L2.St → Hp → Prop} {rt : VK} (h : ta σ H fun vs H1 => ∃ u v w, vs = [u, v, w] ∧ nx (((σ.set i (some u)).set j (some v)).set l (some w)) H1) : tPar3 i j l ta ⟨nx, rt, bk, ct⟩ σ H := h
theorem i_dget {td ty : TE} (h : td σ H fun x H1 => ty σ H1 fun y H2 => ∃ a v, x = .ref a ∧ DGet H2 a y (some v) ∧ Q v H2) : tDGet td ty σ H Q := h
theorem i_din {td ty : TE} (h : ty σ H fun y H1 => td σ H1 fun x H2 => ∃ a o, x = .ref a ∧ DGet H2 a y o ∧ Q (.bl o.isSome) H2) : tDIn ty td σ H Q := h
theorem i_dnotin {td ty : TE} (h : ty σ H fun y H1 => td σ H1 fun x H2 => ∃ a o, x = .ref a ∧ DGet H2 a y o ∧ Q (.bl (!o.isSome)) H2) : tDNotIn ty td σ H Q := h
theorem i_dget2 {td ty tx : TE} (h : td σ H fun x H1 => ∃ a, x = .ref a ∧ IsD H1 a ∧ ty σ H1 fun y H2 => tx σ H2 fun z H3 => ∃ o, DGet H3 a y o ∧ Q (o.getD z) H3) : tDGet2 td ty tx σ H Q := h
theorem i_dput {td ty tv : TE} {nx bk ct : L2.St → Hp → Prop} {rt : VK} (h : tv σ H fun v H1 => td σ H1 fun x H2 => ty σ H2 fun y H3 => ∃ a H4, x = .ref a ∧ DPut H3 a y v H4 ∧ nx σ H4) : sDPut td ty tv ⟨nx, rt, bk, ct⟩ σ H := h
end
end Fb
set_option maxHeartbeats 4000000
namespace Fb
open PySem PySem.Spec PyProof.Rows L2
section
variable {X : Cx}
theorem Paired.at' {α β : Type} {R : α → β → Prop} : ∀ {xs : List α} {ys : List β} {i : Nat} {y : β}, Paired R xs ys → ys[i]? = some y → ∃ x, xs[i]? = some x ∧ R x y
  | _, _, _, _, .nil, h => by simp at h
  | _, _, 0, _, .cons r _, h => ⟨_, rfl, by simp at h; subst h; exact r⟩
  | _, _, i + 1, _, .cons _ t, h => Paired.at' (i := i) t (by simpa using h)
def rInt2 : List V → Hp → VK → Prop := fun xs H Q => (∃ i, xs = [.int i] ∧ Q (.int i) H) ∨ ∃ k, xs = [.bl k] ∧ Q (.int (if k then 1 else 0)) H
theorem f_intB : CallR X (.type "int") rInt2 := call_int1
theorem i_intB {H : Hp} {Q : VK} {k : Bool} (q : Q (.int (if k then 1 else 0)) H) : rInt2 [.bl k] H Q := .inr ⟨k, rfl, q⟩
theorem i_iR3 {tr : TA} {σ : L2.St} {H : Hp} {R : It → Hp → Prop} (h : tr σ H fun vs H1 => ∃ (i j c : Int) (n : Nat), vs = [.int i, .int j, .int c] ∧ RgC i j c n ∧ R (Itc i c n) H1) : iRng3 tr σ H R := h
theorem i_dc {wi : TI} {g : TG} {tt : TT} {tk tv : TE} {vs : List Nat} {σ : L2.St} {H : Hp} {Q : VK} (h : wi σ H fun J H1 => ∀ D, H1 D = none → ∃ W : Nat → Nat → Hp → Prop, (∃ m, W 0 m (upd H1 D (.dK []))) ∧ ∀ i m H, W i m H →
  (J.stop i H ∧ Q (.ref D) H) ∨ (J.go i H ∧ ∃ Nx : Hp → Prop, (∀ H', Nx H' → ∃ m', m' < m ∧ W (i + 1) m' H') ∧ ∀ x H', J.yld i H x H' → g x (wipe σ vs) H' fun σ2 H2 => wipe σ2 vs = wipe σ vs ∧ tt σ2 H2 fun b H3 =>
    if b = true then tk σ2 H3 fun y H4 => tv σ2 H4 fun z H5 => ∃ kvs k, y = kV k ∧ H5 D = some (.dK kvs) ∧ kvs.length < sizeLine ∧ Nx (upd H5 D (.dK (putK kvs k z))) else Nx H3)) : tDc wi g tt tk tv vs σ H Q := h
def tListVals (te : TE) : TE := fun σ H Q => te σ H fun x H1 => ∃ (d : Addr) (kvs : List (Key × V)), x = .ref d ∧ H1 d = some (.dK kvs) ∧ ∀ p, H1 p = none → Q (.ref p) (upd H1 p (.lst (kvs.map (·.2))))
theorem i_listVals {te : TE} {σ : L2.St} {H : Hp} {Q : VK} (h : te σ H fun x H1 => ∃ (d : Addr) (kvs : List (Key × V)), x = .ref d ∧ H1 d = some (.dK kvs) ∧ ∀ p, H1 p = none → Q (.ref p) (upd H1 p (.lst (kvs.map (·.2))))) : tListVals te σ H Q := h
theorem i_iK {td : TE} {σ : L2.St} {H : Hp} {R : It → Hp → Prop} (h : td σ H fun x H1 => ∃ d o, x = .ref d ∧ ((∃ kvs, H1 d = some (.frz o (.dK kvs)) ∧ R (Itk d o kvs) H1) ∨ ∃ kvs, H1 d = some (.frz o (.dT kvs)) ∧ R (Itkt d o kvs) H1)) : iKeys td σ H R := h
structure KSet (kvs : List (Key × V)) (S : Key → Prop) : Prop where
  nd : (kvs.map (·.1)).Nodup
  mem : ∀ k, k ∈ kvs.map (·.1) ↔ S k
theorem KSet.nil : KSet [] fun _ => False := ⟨List.nodup_nil, fun k => ⟨fun h => (List.not_mem_nil h), fun h => h.elim⟩⟩
theorem KSet.some {kvs : List (Key × V)} {S : Key → Prop} (h : KSet kvs S) (k : Key) : (valV kvs k).isSome = true ↔ S k := by
  rw [← h.mem]
  clear h
  induction kvs with
  | nil => simp [valV]
  | cons p kvs ih =>
    by_cases e : p.1 = k
    · rw [valV_pos e]
      simp [e]
    · rw [valV_neg e, ih, List.map_cons, List.mem_cons]
      constructor
      · exact .inr
      · rintro (h | h)
        · exact absurd h.symm e
        · exact h
end
end Fb
set_option maxHeartbeats 4000000
namespace Fb
open PySem PySem.Spec PyProof.Rows L2
structure ClsOk (K : PySem.W.Frag) (mg : Str → Option Value) (x : Str) (C : Addr) (fs : List Str) : Prop where
  mgC : mg x = some (.ref C)
  cl : Cls K C
  no : ∀ f ∈ fs, NoAttr K C f
theorem no_nil {K : PySem.W.Frag} {C : Addr} : ∀ f ∈ ([] : List Str), NoAttr K C f := fun f h => (List.not_mem_nil h).elim
theorem no_cons {K : PySem.W.Frag} {C : Addr} {g : Str} {fs : List Str} (h : PySem.W.findIn K (.ref C) g = some none) (r : ∀ f ∈ fs, NoAttr K C f) : ∀ f ∈ g :: fs, NoAttr K C f := fun f hf => by
  rcases List.mem_cons.mp hf with e | e
  · rw [e]; exact h
  · exact r f e
structure MetIn (K : PySem.W.Frag) (C : Addr) (m qual : Str) (st : Stmt) : Prop where
  ex : ∃ f fd, Fun K m qual st f fd ∧ Meth K C m f
structure MkIn (K : PySem.W.Frag) (C : Addr) (qual : Str) (st : Stmt) : Prop where
  ex : ∃ f fd, Fun K "__init__" qual st f fd ∧ Mk K C f
section
end
structure CalM (P : Program) (w : World) (K : PySem.W.Frag) (mg : Str → Option Value) (base : Heap) (k : Nat) (C : Addr) (m : Str) (sp : Sp) : Prop where
  ex : ∃ (f : Addr) (fd : FuncData) (ps : List Str), Cls K C ∧ Meth K C m f ∧ FnOk P w K mg base (L2N.CX P w) k f fd ps sp ∧ Binds K fd ps []
structure CalK (P : Program) (w : World) (K : PySem.W.Frag) (mg : Str → Option Value) (base : Heap) (k : Nat) (x : Str) (C : Addr) (sp : Sp) : Prop where
  ex : ∃ (f : Addr) (fd : FuncData) (ps : List Str), Mk K C f ∧ FnOk P w K mg base (L2N.CX P w) k f fd ps sp ∧ mg x = some (.ref C) ∧ Binds K fd ps []
section
variable {P : Program} {w : World} {K : PySem.W.Frag} {mg : Str → Option Value} {base : Heap}
theorem CalM.mono {j k : Nat} {C : Addr} {m : Str} {sp : Sp} (c : CalM P w K mg base j C m sp) (h : j ≤ k) : CalM P w K mg base k C m sp := by
  obtain ⟨f, fd, ps, a, b, F, r⟩ := c.ex
  exact ⟨f, fd, ps, a, b, F.mono h, r⟩
theorem calK_of {x : Str} {C : Addr} {fs : List Str} {qual : Str} {st : Stmt} {N ps : List Str} {k : Nat} {sp : Sp} (O : ClsOk K mg x C fs) (D : MkIn K C qual st) (S : FnScope N ps (defScope st))
    (b : ∀ (kV doc pm : Value) (an : Option Addr) (cdv ct : Value) (us : List Value), us.length = ps.length → bindArgs (PySem.W.fnOf "__init__" qual (defArgs st) (defBody st) (defScope st) .none kV doc pm an cdv ct) ⟨us, []⟩ = pure (ps.zip us))
    (len : ∀ vs H Q E, sp vs H Q E → vs.length = ps.length)
    (hbody : ∀ (f : Addr) (cdv : Value) (A : Around) (outer : List Env) (s : Shared) (H : Hp) (vs : List V) (Q : VK) (E : XK), Room k (A.deeper (envOfC qual (defScope st) s.heap.objs.size f cdv)) → sp vs H Q E →
      ∃ t, PSs (cxOf (L2N.CX P w) P w K mg base N qual (defScope st) f cdv A outer s H E).nox (defBody st) t ∧ t { nx := fun _ H' => Q .non H', rt := Q } (start N vs) H) : CalK P w K mg base (k + 1) x C sp := by
  obtain ⟨f, fd, F, hm⟩ := D.ex
  exact ⟨f, fd, ps, hm, F.okN S len (fun cdv A outer s H vs Q E hr h => by
    obtain ⟨t, p, q⟩ := hbody f cdv A outer s H vs Q E hr h
    exact ⟨t, p.nox, q⟩), O.mgC, F.binds b⟩
end
section
variable {X : Cx} {k j : Nat} {C : Addr} {x m : Str} {sp : Sp} {p pos apos : Pos} {e o : Expr} {es : List Expr} {ta : TE} {t : TA}
theorem pk (c : CalK X.prog X.w X.K X.mg X.base k x C sp) (hr : Room j X.A) (hk : k + 1 ≤ j) (ha : PA X (e :: es) t) (hg : Gl X x := by rfl)
    (hdb : (x == ("__debug__" : Str)) = false := by decide) (he : starEach (e :: es) X.env = (false, eval e X.env) :: starEach es X.env := by rfl) (hpl : (backTo pos (starEach es X.env)).any (·.1) = false := by rfl) :
    PE X (.Call (.Name x p) (e :: es) [] pos) (tMake C sp [] E0 t) := by
  obtain ⟨f, fd, ps, M, F, hm, b⟩ := c.ex
  exact pe_make M F (hr.mono hk) hg hm b .nil passL ha hdb he hpl
theorem pm {pl : Sem Bool} (c : CalM X.prog X.w X.K X.mg X.base k C m sp) (hr : Room j X.A) (hk : k ≤ j) (he : PE X o ta) (ha : PA X (e :: es) t)
    (hst : starEach (e :: es) X.env = (false, eval e X.env) :: starEach es X.env := by rfl) (hpl : (backTo pos (starEach es X.env)).any (·.1) = false := by rfl)
    (ht : eval (.Call (.Attribute o m apos) (e :: es) [] pos) X.env = (do
      let ov ← eval o X.env
      standAt apos.atName
      let (f, first) ← holding [ov] (getMethod ov m pl)
      callWith pos f first (backTo pos (starEach (e :: es) X.env)) (backToKw pos (keywordEach [] X.env))) := by rfl) :
    PE X (.Call (.Attribute o m apos) (e :: es) [] pos) (tMeth C m sp [] E0 ta t) := by
  obtain ⟨f, fd, ps, hc, hm, F, b⟩ := c.ex
  exact pe_meth (pl := pl) he hc hm F (hr.mono hk) b .nil passL ha hst hpl ht
theorem pm0 {pl : Sem Bool} (c : CalM X.prog X.w X.K X.mg X.base k C m sp) (hr : Room j X.A) (hk : k ≤ j) (he : PE X o ta)
    (ht : eval (.Call (.Attribute o m apos) [] [] pos) X.env = (do
      let ov ← eval o X.env
      standAt apos.atName
      let (f, first) ← holding [ov] (getMethod ov m pl)
      callWith pos f first (backTo pos (starEach [] X.env)) (backToKw pos (keywordEach [] X.env))) := by rfl) :
    PE X (.Call (.Attribute o m apos) [] [] pos) (tMeth C m sp [] E0 ta tNil) := by
  obtain ⟨f, fd, ps, hc, hm, F, b⟩ := c.ex
  exact pe_meth0 (pl := pl) he hc hm F (hr.mono hk) b .nil passL ht
end
section
variable {σ : L2.St} {H : Hp} {nx bk ct : L2.St → Hp → Prop} {rt : VK} {Q : VK} {ta tv te : TE} {t : TA} {K : PySem.W.Frag} {C : Addr} {sp : Sp} {f m : Str}
theorem i_fld (h : ta σ H fun x H1 => ∃ a C dx fs v, x = .ref a ∧ H1 a = some (.ins C dx fs) ∧ Cls K C ∧ NoAttr K C f ∧ fs.lookup f = some v ∧ Q v H1) : tFld K ta f σ H Q := h
theorem i_fldV {a dx : Addr} {fs : List (Str × V)} {v : V} {mg : Str → Option Value} {x : Str} {ns : List Str} {R : V → Prop} (O : ClsOk K mg x C ns) (hn : f ∈ ns) (h : H a = some (.ins C dx fs)) (l : fs.lookup f = some v) (q : R v) :
    ∃ (a' C dx : Addr) (fs : List (Str × V)) (v : V), V.ref a = .ref a' ∧ H a' = some (.ins C dx fs) ∧ Cls K C ∧ NoAttr K C f ∧ fs.lookup f = some v ∧ R v := ⟨a, C, dx, fs, v, rfl, h, O.cl, O.no f hn, l, q⟩
theorem i_meth (h : ta σ H fun x H1 => ∃ a dx fs, x = .ref a ∧ H1 a = some (.ins C dx fs) ∧ fs.lookup m = none ∧ t σ H1 fun vs H2 => sp (x :: vs) H2 Q E0) : tMeth C m sp [] E0 ta t σ H Q := by
  have e : (fun (x : V) (H1 : Hp) => ∃ a dx fs, x = V.ref a ∧ H1 a = some (HO.ins C dx fs) ∧ fs.lookup m = none ∧ t σ H1 fun vs H2 => sp (x :: (vs ++ [])) H2 Q E0) = fun x H1 => ∃ a dx fs, x = .ref a ∧ H1 a = some (.ins C dx fs) ∧ fs.lookup m = none ∧ t σ H1 fun vs H2 => sp (x :: vs) H2 Q E0 := by
    funext x H1
    have : (fun (vs : List V) (H2 : Hp) => sp (x :: (vs ++ [])) H2 Q E0) = fun vs H2 => sp (x :: vs) H2 Q E0 := by
      funext vs H2
      rw [List.append_nil]
    rw [this]
  show ta σ H fun (x : V) (H1 : Hp) => ∃ a dx fs, x = V.ref a ∧ H1 a = some (HO.ins C dx fs) ∧ fs.lookup m = none ∧ t σ H1 fun vs H2 => sp (x :: (vs ++ [])) H2 Q E0
  rw [e]
  exact h
theorem i_sfld (h : tv σ H fun y H1 => ta σ H1 fun x H2 => ∃ a C dx fs, x = .ref a ∧ H2 a = some (.ins C dx fs) ∧ Cls K C ∧ NoAttr K C f ∧ fs.length < 1000 ∧ nx σ (upd H2 a (.ins C dx (putF f y fs)))) : sFld K ta tv f ⟨nx, rt, bk, ct⟩ σ H := h
theorem k_sfld {X : Cx} {o value : Expr} {pos pos' : Pos} (h : X.K = K) (ha : PE X o ta) (hv : PE X value tv) (hs : swapsWith value (some (.Attribute o f pos')) pos.line X.env = pure false := by rfl) : PS X (.Assign [.Attribute o f pos'] value pos) (sFld K ta tv f) := h ▸ ps_fld ha hv hs
end
end Fb
set_option maxHeartbeats 4000000
namespace Fb
open PySem PySem.Spec PyProof.Rows L2
section
variable {B : List Addr} {H0 H : Hp} {L : List (Addr × HO)} {P : List (Hp → Prop)}
theorem Stt.sub (s : Stt B H0 L P H) (h : L'.Sublist L) : Stt B H0 L' P H :=
  ⟨s.ex, fun p hp => s.own p (h.subset hp), fun p hp => s.mu p (h.subset hp), fun p hp => s.fr p (h.subset hp), (h.map (·.1)).nodup s.nd, s.ps, s.pp, s.tk⟩
end
end Fb
set_option maxHeartbeats 4000000
namespace Fb
open PySem PySem.Spec PyProof.Rows L2
section
end
section
variable {X : Cx} {K : PySem.W.Frag}
def tBMT (r : V → List V → Hp → VK → Prop) (to : TE) (t : TA) : TE := fun σ H Q => to σ H fun x H1 => (∃ p xs, x = .ref p ∧ TupN H1 p xs) ∧ t σ H1 fun vs H2 => r x vs H2 Q
variable {o e : Expr} {es : List Expr} {to : TE} {t : TA} {name : Str} {apos cpos : Pos} {id : String} {r : V → List V → Hp → VK → Prop}
end
theorem i_bmT {r : V → List V → Hp → VK → Prop} {to : TE} {t : TA} {σ : L2.St} {H : Hp} {Q : VK} (h : to σ H fun x H1 => (∃ p xs, x = .ref p ∧ TupN H1 p xs) ∧ t σ H1 fun vs H2 => r x vs H2 Q) : tBMT r to t σ H Q := h
end Fb
set_option maxHeartbeats 4000000
namespace Fb
open PySem PySem.Spec PyProof.Rows L2 L2.DX PySem.Calls PyProof.V
def PrT (H : Hp) (ts : List Addr) (ps : List (Int × Int)) : Prop := Paired (fun (t : Addr) (q : Int × Int) => H t = some (.tup [.int q.1, .int q.2])) ts ps
theorem PrT.keep {H H' : Hp} {ts : List Addr} {ps : List (Int × Int)} (t : TK H H') (h : PrT H ts ps) : PrT H' ts ps := by
  induction h with
  | nil => exact .nil
  | cons r _ ih => exact .cons (t _ _ r) ih
theorem PrT.len {H : Hp} {ts : List Addr} {ps : List (Int × Int)} (h : PrT H ts ps) : ts.length = ps.length := Paired.length h
theorem PrT.snoc {H : Hp} {ts : List Addr} {ps : List (Int × Int)} (h : PrT H ts ps) {t : Addr} {q : Int × Int} (k : H t = some (.tup [.int q.1, .int q.2])) : PrT H (ts ++ [t]) (ps ++ [q]) := by
  induction h with
  | nil => exact .cons k .nil
  | cons r _ ih => exact .cons r ih
theorem PrT.at {H : Hp} {ts : List Addr} {ps : List (Int × Int)} (h : PrT H ts ps) : ∀ {i : Nat} {t : Addr}, ts[i]? = some t → ∃ q, ps[i]? = some q ∧ H t = some (.tup [.int q.1, .int q.2]) := by
  induction h with
  | nil => intro i t e; cases e
  | cons r _ ih =>
    intro i t e
    cases i with
    | zero =>
      obtain rfl := Option.some.inj e
      exact ⟨_, rfl, r⟩
    | succ i => exact ih e
end Fb
set_option maxHeartbeats 4000000
namespace Fb
open PySem PySem.Spec PyProof.Rows L2
end Fb
set_option maxHeartbeats 4000000
namespace Fb
open PySem PySem.W PySem.Calls PyProof.Rows PySem.HandSPX
abbrev nVE : String := "ValueError.__new__"
abbrev fVE : ExcBaseFacts "ValueError" "ValueError.__new__" "ValueError.__init__" veTail := PySem.F.excBase_ValueError
structure VeCls (hp : Heap) (C : Addr) (b : List Value) : Prop where
  at_ : ∃ (x1 x2 : Str) (x3 : Addr) (x4 : List Value) (x5 : Bool) (x6 : List Str) (x7 : List Value) (x8 : Bool) (x9 : Option Bool) (y0 : Option Addr) (y1 y2 y3 y4 y5 : Option Value), hp.get? C = some (excClassObj x1 x2 C x3 x4 b x5 x6 x7 x8 x9 y0 y1 y2 y3 y4 y5 nVE)
  ve : refsVE b = true
theorem VeCls.has {hp : Heap} {C : Addr} {b : List Value} (c : VeCls hp C b) (n : String) {r : Bool} (e : veTail.contains (.type n) = r) : (Value.ref C :: b).contains (.type n) = r := by
  have h1 := refsVE_contains n b c.ve
  rw [List.contains_cons, h1, e]
  rfl
section
variable {hp : Heap} {C : Addr} {b : List Value} {ks : List (Str × Value)} {gs : Array GenState} {dr : Drawn} {tk : Nat} {os : OsState}
theorem kw_checked (c : VeCls hp C b) {M : Model} {A : Around} {E : Value → Shared → Prop} {G : Unit → Shared → Prop} (done : G () ⟨hp, gs, dr, tk, os⟩) : wpAny M A (checkBuiltinCall nVE ⟨[.ref C], ks⟩) G E ⟨hp, gs, dr, tk, os⟩ := by
  have under := c.has "ValueError" (r := true) (by decide +kernel)
  have nostar := fVE.noStar
  obtain ⟨_, _, _, _, _, _, _, _, _, _, _, _, _, _, _, here⟩ := c.at_
  simp only [checkBuiltinCall, fVE.newKind, fVE.newSplit, fVE.newRow]
  repeat first
    | refine wpAny_loadPart_at here ?_
    | (refine wpAny_isSubtype_exc here ?_
       rw [under])
    | refine wpAny_staticBase_exc here ?_
    | refine wpAny_madeBy_exc here ?_
    | simp only [bne_self_eq_false, Bool.false_eq_true, if_false]
    | wp_step
  exact done
variable {pg : Program} {wd : World} {A : Around}
abbrev madeKw (hp : Heap) (C : Addr) : Heap := (hp.push (PySem.W.kdv_tup [])).push (excO C hp.objs.size)
theorem kw_new (c : VeCls hp C b) {G : Result → Shared → Prop} (done : G (.ok (.ret (.ref (hp.objs.size + 1)))) ⟨madeKw hp C, gs, dr, tk, os⟩) : codeAny (model pg wd) A (.builtin nVE ⟨[.ref C], ks⟩) G ⟨hp, gs, dr, tk, os⟩ := by
  have under := c.has "ValueError" (r := true) (by decide +kernel)
  have noA := c.has "AttributeError" (r := false) (by decide +kernel)
  have noN := c.has "NameError" (r := false) (by decide +kernel)
  have ends := fVE.ends
  obtain ⟨_, _, _, _, _, _, _, _, _, _, _, _, _, _, _, here⟩ := c.at_
  refine codeAny_builtinAt fVE.entry ?_
  unfold Builtin.«BaseException.__new__»
  refine PySem.wpAt_bind ?_
  show PySem.wpAt _ _ _ (stack >>= _) _ _ _
  refine PySem.wpAt_bind (PySem.wpAt_stack fun _ _ => PySem.wpAt_of_wpAny ?_)
  wp_walk
  refine PySem.wpAt_of_wpAny ?_
  rw [fVE.owner]
  repeat first
    | with_reducible refine wpAny_madeHere_exc fVE.canon here ?_
    | with_reducible refine wpAny_loadPart_at here ?_
    | (with_reducible refine wpAny_isSubtype_exc here ?_
       first | rw [under] | rw [noA] | rw [noN])
    | wp_step
  show G _ _
  rw [Heap.size_push]
  exact done
theorem kw_typeCall (c : VeCls hp C b) {f : Addr} {E : Value → Shared → Prop} {G : Fin → Shared → Prop} (ini : PySem.W.Looks (model pg wd) hp (typeLookup (.ref C) "__init__") (some (.ref f))) (bnd : ∀ self, PySem.W.Looks (model pg wd) hp (bindSpecial (.ref f) self) (.ref f, [self]))
    (run : codeAny (model pg wd) A (.call (.ref f) ⟨[.ref (hp.objs.size + 1)], ks⟩) (fun r s' => match r with | .ok (.ret v) => v = .none ∧ G (.done (.ret (.ref (hp.objs.size + 1)))) s' | .ok _ => False | .error e => E e s') ⟨madeKw hp C, gs, dr, tk, os⟩) :
    wpAny (model pg wd) A (Builtin.«type.__call__» ⟨[.ref C], ks⟩) G E ⟨hp, gs, dr, tk, os⟩ := by
  obtain ⟨_, _, _, _, _, _, _, _, _, _, _, _, _, _, _, here⟩ := id c.at_
  repeat first
    | with_reducible refine wpAny_loadPart_at here ?_
    | with_reducible refine wpAny_madeBy_exc here ?_
    | wp_step
  refine codeAny_call_builtin_code (Code.quiet_builtin _ fVE.quiet) (kw_checked c (kw_new c ?_))
  show wpAny _ _ _ _ _ _
  have more : ∀ b o, hp.get? b = some o → (madeKw hp C).get? b = some o := fun _ _ e => Heap.get?_push_of_some _ (Heap.get?_push_of_some _ e)
  have later := more _ _ here
  have exc : (madeKw hp C).get? (hp.objs.size + 1) = some (excO C hp.objs.size) := by heap_get
  have self : (Value.ref C :: b).contains (.ref C) = true := by simp
  have look := ini.keeps more
  have look2 := (bnd (.ref (hp.objs.size + 1))).keeps more
  unfold isInstance
  repeat first
    | with_reducible refine wpAny_loadPart_at exc ?_
    | (with_reducible refine wpAny_isSubtype_exc later ?_
       rw [self])
    | wp_step
  show wpAny _ _ (typeLookup (.ref C) _) _ _ _
  refine look.at (wpAny_holding (wpAny_bind (look2.at (wpAny_bind (wpAny_call (codeAny_mono run fun r s' z => ?_))))))
  rcases r with e | (v | _ | _ | _) <;> first | exact z | exact z.elim | skip
  obtain ⟨rfl, z⟩ := z
  first
    | exact wpAny_pure (wpAny_pure z)
    | (wp_walk; exact z)
theorem kw_call (c : VeCls hp C b) {f : Addr} {G : Result → Shared → Prop} (ini : PySem.W.Looks (model pg wd) hp (typeLookup (.ref C) "__init__") (some (.ref f))) (bnd : ∀ self, PySem.W.Looks (model pg wd) hp (bindSpecial (.ref f) self) (.ref f, [self]))
    (run : codeAny (model pg wd) (A.under (.builtin "type.__call__" ⟨[.ref C], ks⟩)) (.call (.ref f) ⟨[.ref (hp.objs.size + 1)], ks⟩) (PySem.W.InitBack (hp.objs.size + 1) G) ⟨madeKw hp C, gs, dr, tk, os⟩) : codeAny (model pg wd) A (.call (.ref C) ⟨[], ks⟩) G ⟨hp, gs, dr, tk, os⟩ := by
  obtain ⟨_, _, _, _, _, _, _, _, _, _, _, _, _, _, _, here⟩ := id c.at_
  have a1 := tc_lookup
  have a2 := tc_bind (.ref C)
  have a3 : (⟨hp, gs, dr, tk, os⟩ : Shared).TypeIs (.ref C) "type" := ⟨_, here, rfl⟩
  refine codeAny_of_tree ?_
  show wpAny _ _ (callAny (.ref C) _) _ _ _
  repeat any_goals first | assumption | with_reducible refine wpAny_loadPart_at here ?_ | wp_step
  refine ⟨rfl, codeAny_call_builtin_at (Code.quiet_builtin _ (by decide +kernel)) entry_typeCall (wpAny_check_type_call_sub here (kw_typeCall c ini bnd (codeAny_mono run fun r s' z => ?_)))⟩
  rcases r with e | (v | _ | _ | _) <;> exact z
end
end Fb
namespace L2
open PySem PySem.Spec PyProof.Rows
theorem mk_endN {X : Cx} {pins : List (Addr × Obj)} {σ : St} {H1 H2 : Hp} {Q : XK} {hp hp2 h2 : Heap} {g1 g2 : Array GenState} {d1 d2 : Drawn} {t1 t2 : Nat} {os1 os2 : OsState} {a C d : Addr} {fs : List (Str × V)} (T : Raises X (.ref C)) (I1 : Inv X pins σ H1 ⟨hp, g1, d1, t1, os1⟩)
    (ha : hp.objs.size ≤ a) (k : ∀ b o, hp.get? b = some o → hp2.get? b = some o) (un : Un (frs X.stack) [] (upd H1 a (exo a C none)) H2 hp2 h2) (hok : HOk X.prog X.w H2 h2) (ho : os2 = os1) (hb : AllBare g2)
    (ea : H2 a = some (exo a C (some d))) (ed : H2 d = some (exd d fs)) (hd1 : H1 d = none) (q : Q (.ref C) (some d) (upd (del H2 a) d (.xd fs))) : L2N.MkP X pins σ Q (.ref a) ⟨h2, g2, d2, t2, os2⟩ := by
  obtain ⟨t0, G, J, kG, ge, hoe, na⟩ := mk_end0 (d2 := d2) (t2 := t2) I1 ha k un hok ho hb ea ed hd1
  exact ⟨a, _, _, ⟨G, g2, d2, t2, os2⟩, _, .ref C, some d, rfl, J, kG, ge, hoe, ⟨rfl, rfl, fun vs q => by cases q; rfl⟩, rfl, rfl, na, rfl, hb, T, q⟩
def tMkOK (C : Addr) (sp : Sp) (gV : List V → List V → List V) (m : Nat) (tk : TA) : St → Hp → XK → Prop := fun σ H Q => tk σ H fun zs H1 => zs.length = m ∧ ∀ a, H1 a = none → sp (gV [.ref a] zs) (upd H1 a (exo a C none))
  (fun v H2 => v = .non ∧ ∃ (d : Addr) (fs : List (Str × V)), H2 a = some (exo a C (some d)) ∧ H2 d = some (exd d fs) ∧ H1 d = none ∧ Q (.ref C) (some d) (upd (del H2 a) d (.xd fs))) (fun _ _ _ => False)
section
variable {X : Cx} {CX : CXT} {k : Nat} {C fI : Addr} {fd : FuncData} {ps ks : List Str} {sp : Sp} {x : Str} {p pos : Pos} {kws : List Keyword} {tk : TA} {g : List Value → List Value → List Value} {gV : List V → List V → List V}
theorem pmk_oexK (T : OexC X.K C) (iC : PySem.W.findIn X.K (.ref C) "__init__" = some (some (.ref fI))) (tI : PySem.W.typeIn X.K (.ref fI) = some (.type "function"))
    (F1 : FnOk X.prog X.w X.K X.mg X.base CX k fI fd ps sp) (hr : Room (k + 1) X.A) (hb : KBn X.K fd ps 1 ks g gV) (hx : Passes CX X (fun _ _ _ => False)) (hg : Gl X x) (hm : X.mg x = some (.ref C)) (hkw : PK X kws tk)
    (hall : (backToKw pos (keywordEach kws X.env)).all (·.1.isSome) = true := by rfl) (hks : (backToKw pos (keywordEach kws X.env)).filterMap (·.1) = ks := by rfl) (hdb : (x == ("__debug__" : Str)) = false := by decide)
    (hpl : ((backTo pos (starEach [] X.env)).any (·.1) || (backToKw pos (keywordEach kws X.env)).any (·.1.isNone)) = false := by rfl) :
    L2N.PMk X (.Call (.Name x p) [] kws pos) (tMkOK C sp gV ks.length tk) := by
  intro pins s σ H Q I h
  obtain ⟨nm, q, N, bs, bm, sn, sub, ab, col, dd, k0, k1, k2, k3, k5, hC, hbm⟩ := T.cls
  refine wpAny_Call_Name_kw (ld_glob I hg hm ?_ hdb)
  refine PySem.W.callWith_KW0 (h₀ := X.base) I.ok.mod.kin T.kC hall ?_ hpl
  refine thn (hkw.run pos pins s σ H _ I h) fun ws s1 hh => ?_
  obtain ⟨zs, H1, I1, rz, l2, q1⟩ := hh
  refine ⟨I1.kIn, ?_⟩
  rw [hks]
  show wpAny _ _ (call (.ref C) [] (ks.zip ws)) _ _ _
  obtain ⟨hp, g', dr, tk', os⟩ := s1
  have hsz : hp.objs.size ≤ hp.objs.size + 1 := Nat.le_succ _
  have hn : H1 (hp.objs.size + 1) = none := I1.hok.fresh hsz
  have hq := q1 (hp.objs.size + 1) hn
  have kk : ∀ b o, hp.get? b = some o → (Fb.madeKw hp C).get? b = some o := fun b o e => Heap.get?_push_of_some _ (Heap.get?_push_of_some _ e)
  have hget : (Fb.madeKw hp C).get? (hp.objs.size + 1) = some (PySem.HandSPX.excO C hp.objs.size) := by heap_get
  have I2 : Inv X pins σ (upd H1 (hp.objs.size + 1) (exo (hp.objs.size + 1) C none)) ⟨Fb.madeKw hp C, g', dr, tk', os⟩ := I1.laid (t' := tk') (a := hp.objs.size + 1) (o := exo (hp.objs.size + 1) C none) (h' := Fb.madeKw hp C) kk hsz (exo_ok hget)
  have r2 := hb.rel (show Vals [V.ref (hp.objs.size + 1)] [Value.ref (hp.objs.size + 1)] from .cons rfl .nil) rz
  refine wpAny_call (Fb.kw_call (b := bm) ⟨⟨nm, q, N, bs, true, sn, sub, ab, col, dd, k0, k1, k2, k3, k5, I1.kIn _ _ hC⟩, hbm⟩ (PySem.W.looks_findIn I1.kIn iC) (fun self => PySem.W.bind_fn I1.kIn self tI)
    (codeAny_mono (F1.run _ X.stack _ _ ⟨[Value.ref (hp.objs.size + 1)], ks.zip ws⟩ (g [Value.ref (hp.objs.size + 1)] ws) _ _ (fun _ _ _ => False) (hr.make C [] (ks.zip ws)) (I2.env0.make C [] (ks.zip ws)) (hb.to _ [Value.ref (hp.objs.size + 1)] ws I2.kIn rfl (rz.length.symm.trans l2)) r2 hq) fun r s' hq' => ?_))
  cases r with
  | error er => exact hx pins σ _ _ er s' I2 hq'
  | ok fl =>
    cases fl with
    | ret u =>
      obtain ⟨v, H2, os2, bare2, un2, hok2, rv, ev, d, fs, ea, ed, hd1, q2⟩ := hq'
      subst ev
      obtain ⟨h2, g2, d2, t2, os'⟩ := s'
      exact ⟨rv, mk_endN (raises_own T.exC T.tyC) I1 hsz kk un2 hok2 os2 bare2 ea ed hd1 q2⟩
    | next => exact False.elim hq'
    | brk => exact False.elim hq'
    | cont => exact False.elim hq'
theorem pe_feinit {X : Cx} {D : Addr} {x : Str} {e : Expr} {es : List Expr} {ta : TA} {p1 p2 pos : Pos} {pl : Sem Bool} (hg : Gl X x) (hm : X.mg x = some (.ref D)) (hsg : PySem.W.specialIn X.K (.ref D) "__getattribute__" = some (some (.builtin "type.__getattribute__")))
    (hrd : PySem.W.readsIn X.K D (.type "type") = true) (vV : PySem.W.findCls X.K (.ref D) (.type "type") "__init__" = some (.val (.builtin "ValueError.__init__"))) (ha : PA X (e :: es) ta)
    (hc : eval (.Call (.Attribute (.Name x p1) "__init__" p2) (e :: es) [] pos) X.env = (do
      let ov ← eval (.Name x p1) X.env
      standAt p2.atName
      let (f, first) ← holding [ov] (getMethod ov "__init__" pl)
      callWith pos f first (backTo pos (starEach (e :: es) X.env)) (backToKw pos (keywordEach [] X.env))) := by rfl)
    (hdb : (x == ("__debug__" : Str)) = false := by decide) (he : starEach (e :: es) X.env = (false, eval e X.env) :: starEach es X.env := by rfl) (hpl : (backTo pos (starEach es X.env)).any (·.1) = false := by rfl) :
    PE X (.Call (.Attribute (.Name x p1) "__init__" p2) (e :: es) [] pos) (tVeI X.K ta) := by
  refine ⟨fun pins s σ H Q I h => ?_⟩
  refine PySem.W.methodCall_KW (ld_glob I hg hm ?_ hdb) hc
  refine PySem.W.method_cls I.kIn hsg (PySem.W.cls_value I.kIn hrd vV (by decide +kernel) ?_)
  show wpAny _ _ (callWith pos (Value.builtin "ValueError.__init__") [] (backTo pos (starEach (e :: es) X.env)) []) _ _ _
  refine PyProof.Rows.callWith_method1 (thn (ha.run pos pins _ σ H _ (I.tok _) h) fun us s1 ⟨vs, H1, I1, r1, a, C, ws, ev, hl, T, ea, q⟩ => ?_) he hpl
  subst ev
  cases r1 with
  | @cons _ u0 _ ur ra rw' =>
    obtain rfl : u0 = Value.ref a := ra
    have hlen : ur.length ≤ sizeLine := by
      rw [← Paired.length rw', sizeLine_eq]
      omega
    exact oinit_ok T I1 ea hlen fun s' J => ⟨.non, H1, J, rfl, q⟩
end
end L2
set_option maxHeartbeats 4000000
namespace Fb
open PySem PySem.Spec PyProof.Rows L2 PySem.HandSPX
def errOwn (K : PySem.W.Frag) (Cs : List Addr) : Bool := Cs.all fun C => PySem.W.excIn K C veTail "ValueError.__new__"
def oexB (K : PySem.W.Frag) (C : Addr) : Bool := match K.lookup C with
  | some ⟨.type "type", _, .cls cd, sl⟩ => (match cd.mro, sl.toList with
    | .ref C' :: bm, [_, _, _, _, some (.builtin n), _] => C' == C && n == "ValueError.__new__" && !cd.hasDel && cd.hasDict && refsVE bm
    | _, _ => false)
  | _ => false
theorem oexB_cls {K : PySem.W.Frag} {C : Addr} (q : oexB K C = true) : ∃ nm q N bs bm sn sub ab col dd k0 k1 k2 k3 k5, K.lookup C = some (excClassObj nm q C N bs bm true sn sub ab col dd k0 k1 k2 k3 k5 "ValueError.__new__") ∧ refsVE bm = true := by
  unfold oexB at q
  split at q
  · rename_i dd cd sl ho
    split at q
    · rename_i C' bm k0 k1 k2 k3 n k5 hm hs
      simp only [Bool.and_eq_true, beq_iff_eq, Bool.not_eq_true'] at q
      obtain ⟨⟨⟨⟨rfl, rfl⟩, hdel⟩, hdi⟩, ht⟩ := q
      obtain ⟨nm, bs, mro, ns, qn, hd, sn, sub, ab, col, del⟩ := cd
      dsimp only at hm hdel hdi
      subst hm hdel hdi
      have hsl : sl = #[k0, k1, k2, k3, some (.builtin "ValueError.__new__"), k5] := by
        obtain ⟨l⟩ := sl
        simp only at hs
        rw [hs]
      subst hsl
      exact ⟨nm, qn, ns, bs, bm, sn, sub, ab, col, dd, k0, k1, k2, k3, k5, ho, ht⟩
    · cases q
  · cases q
def oexAll (K : PySem.W.Frag) (C f : Addr) (fs : List Str) : Bool := oexB K C && decide (PySem.W.findIn K (.ref C) "__setattr__" = some (some (.builtin "object.__setattr__"))) && decide (PySem.W.subIn K (.ref C) (.type "BaseException") = some true) &&
  decide (PySem.W.typeIn K (.ref C) = some (.type "type")) && PySem.W.keepIn K (.ref C) && decide (PySem.W.findIn K (.ref C) "__init__" = some (some (.ref f))) && decide (PySem.W.typeIn K (.ref f) = some (.type "function")) &&
  decide (PySem.W.findIn K (.ref C) "__getattribute__" = some (some (.builtin "BaseException.__getattribute__"))) && decide (PySem.W.findIn K (.ref C) "__getattr__" = some none) && PySem.W.hasDictIn K C && fs.all fun x => decide (PySem.W.findIn K (.ref C) x = some none)
structure OexI (K : PySem.W.Frag) (C f : Addr) (fs : List Str) : Prop where
  oex : OexC K C
  ini : PySem.W.findIn K (.ref C) "__init__" = some (some (.ref f))
  fn : PySem.W.typeIn K (.ref f) = some (.type "function")
  xf : XfC K C
  no : ∀ x ∈ fs, PySem.W.findIn K (.ref C) x = some none
theorem oexAll_ok {K : PySem.W.Frag} {C f : Addr} {fs : List Str} (h : oexAll K C f fs = true) : OexI K C f fs := by
  unfold oexAll at h
  simp only [Bool.and_eq_true, decide_eq_true_eq, List.all_eq_true] at h
  obtain ⟨⟨⟨⟨⟨⟨⟨⟨⟨⟨h1, h2⟩, h3⟩, h4⟩, h5⟩, h6⟩, h7⟩, h8⟩, h9⟩, h10⟩, h11⟩ := h
  exact ⟨⟨oexB_cls h1, h2, h3, h4, h5⟩, h6, h7, ⟨h8, h9, h3, h10⟩, h11⟩
theorem kbn_req {K : PySem.W.Frag} {x qual : Str} {st : Stmt} {f : Addr} {fd : FuncData} {ps ks : List Str} {n : Nat} (F : Fun K x qual st f fd) (g : {α : Type} → List α → List α → List α)
    (hrel : ∀ {vs zs : List V} {us ws : List Value}, Vals vs us → Vals zs ws → Vals (g vs zs) (g us ws))
    (h : ∀ (kV doc pm : Value) (an : Option Addr) (cdv ct : Value) (us ws : List Value), us.length = n → ws.length = ks.length → bindArgs (PySem.W.fnOf x qual (defArgs st) (defBody st) (defScope st) .none kV doc pm an cdv ct) ⟨us, ks.zip ws⟩ = pure (ps.zip (g us ws))) :
    KBn K fd ps n ks (fun us ws => g us ws) (fun vs zs => g vs zs) := by
  obtain ⟨oc, od, kV, doc, pm, an, cdv, ct, osl, rfl, lk, hcd⟩ := F.ex
  exact ⟨fun s us ws _ l1 l2 => .of_eq (h kV doc pm an cdv ct us ws l1 l2), fun r1 r2 => hrel r1 r2⟩
end Fb
set_option maxHeartbeats 4000000
namespace Fb
open PySem PySem.Spec PyProof.Rows L2 PySem.HandSPX
theorem tup_noT {o : HO} (t : TupO o) : ∀ ps, o ≠ .tbl ps := fun ps e => by
  subst e
  exact t
theorem TK.extN {H H' : Hp} (e : LamX.ExtN H H') (t : LamX.Tabs tabT H') : TK H H' := ⟨fun a o to h => e a o h (tup_noT to), fun p hp _ => t p hp⟩
section
end
section
end
section
end
section
end
end Fb
set_option maxHeartbeats 4000000
namespace Fb
open PySem PySem.Spec PyProof.Rows L2
end Fb
set_option maxHeartbeats 4000000
namespace Fb
open PySem PySem.Spec PyProof.Rows L2 PySem.HandSPX
def ObO (a : Addr) (ob : Obj) : HO := .ext fun h => h.get? a = some ob
structure LamD where
  df : Option Str
  params : Arguments
  body : Expr
  scope : Scope
  deriving Inhabited
def lamFd (q : Str) (d : LamD) (cl : List (Str × Addr)) (dV doc pm : Value) (c : Addr) (ctv : Value) : FuncData := PySem.W.kdv_fn "<lambda>" q d.params (.expr d.body) d.scope cl dV doc pm (.ref c) ctv
def DfAt (df : Option Str) (dV : Value) (H : Hp) : Prop := match df with
  | none => dV = .none
  | some _ => ∃ (t : Addr) (k : Tok), dV = .ref t ∧ H t = some (ObO t (PySem.W.kdv_tup [.int 0 k]))
def LamAt (q : Str) (cl : List (Str × Addr)) (d : LamD) (f : Addr) (H : Hp) : Prop :=
  ∃ (c : Addr) (dV doc pm ctv : Value), H f = some (ObO f { cls := .type "function", data := .func (lamFd q d cl dV doc pm c ctv) }) ∧ H c = some (LamX.CodeO c q) ∧ DfAt d.df dV H
theorem DfAt.keep {H H' : Hp} {df : Option Str} {dV : Value} (t : ∀ a φ, H a = some (.ext φ) → H' a = some (.ext φ)) (h : DfAt df dV H) : DfAt df dV H' := by
  unfold DfAt at h ⊢
  cases df with
  | none => exact h
  | some _ =>
    obtain ⟨a, k, e, h⟩ := h
    exact ⟨a, k, e, t _ _ h⟩
theorem LamAt.keep {q : Str} {cl : List (Str × Addr)} {d : LamD} {f : Addr} {H H' : Hp} (t : ∀ a φ, H a = some (.ext φ) → H' a = some (.ext φ)) (h : LamAt q cl d f H) : LamAt q cl d f H' := by
  obtain ⟨c, dV, doc, pm, ctv, h1, h2, h3⟩ := h
  exact ⟨c, dV, doc, pm, ctv, t _ _ h1, t _ _ h2, h3.keep t⟩
section
end
structure LamS (N : List Str) (sc : Scope) (d : LamD) : Prop where
  kind : d.scope.kind = .function
  co : d.scope.isCoroutine = false
  gen : d.scope.isGenerator = false
  own : ∀ y ∈ d.scope.names, y.2 ≠ .cell
  par : ∀ y ∈ d.scope.names, y.2 = .local → y.1 ∉ N
  free : ∀ y ∈ d.scope.names, y.2 = .free → sc.names.lookup y.1 = some .cell ∨ sc.names.lookup y.1 = some .free
  df : ∀ x, d.df = some x → d.scope.names.lookup x = some .local
theorem LamS.has {X : Cx} {d : LamD} (L : LamS X.N X.env.scope d) (ok : X.Ok) : ∀ y ∈ d.scope.names, y.2 = .free → ∃ c, X.env.cells.lookup y.1 = some c := fun y hy e => ok.has _ (L.free y hy e)
structure LamB (d : LamD) : Prop where
  no : d.df = none → d.params.defaults = [] ∧ ∀ (q : Str) (cl : List (Str × Addr)) (doc pm : Value) (c : Addr) (ctv : Value), bindArgs (lamFd q d cl .none doc pm c ctv) ⟨[], []⟩ = pure []
  one : ∀ x, d.df = some x → (∃ (tk : Nat) (p : Pos), d.params.defaults = [.Constant (.int 0) tk p]) ∧ ∀ (q : Str) (cl : List (Str × Addr)) (dV doc pm : Value) (c : Addr) (ctv : Value), ∃ k, bindArgs (lamFd q d cl dV doc pm c ctv) ⟨[], []⟩ = seqItems? dV >>= k ∧ ∀ v, k (some #[v]) = pure [(x, v)]
  kw : d.params.kw_defaults = []
section
end
section
variable {X : Cx} {pins : List (Addr × Obj)} {σ : L2.St} {H HZ : Hp} {s s1 : Shared}
structure LamGood (X : Cx) (k : Nat) (d : LamD) (t : XK → TE) : Prop where
  L : LamS X.N X.env.scope d
  B : LamB d
  run : ∀ (A : Around) (outer : List Env) (s : Shared) (H : Hp) (E : XK) (f c' : Addr), Room k (A.deeper (LamX.lamEnv X d.scope s.heap.objs.size f c')) → PE (LamX.lamCx X A outer s H E d.scope f c') d.body (t E)
end
inductive Goods (X : Cx) (k : Nat) : List (LamD × (XK → TE)) → Prop
  | nil : Goods X k []
  | cons {d : LamD} {t : XK → TE} {ds : List (LamD × (XK → TE))} (h : LamGood X k d t) (r : Goods X k ds) : Goods X k ((d, t) :: ds)
theorem Goods.at {X : Cx} {k : Nat} : ∀ {ds : List (LamD × (XK → TE))} {j : Nat} {d : LamD} {t : XK → TE}, Goods X k ds → ds[j]? = some (d, t) → LamGood X k d t
  | _, 0, _, _, .cons h _, e => by
    cases e
    exact h
  | _, j + 1, _, _, .cons _ r, e => Goods.at (j := j) r e
end Fb
set_option maxHeartbeats 4000000
namespace Fb
open PySem PySem.Spec PyProof.Rows L2 PySem.HandSPX
section
end
end Fb
set_option maxHeartbeats 4000000
namespace Fb
open PySem PySem.Spec PyProof.Rows L2
end Fb
set_option maxHeartbeats 4000000
namespace Fb
open PySem PySem.Spec PyProof.Rows L2
section
variable {κ : Type} [DecidableEq κ] {P : Program} {w : World} {A : Around} {E : Value → Shared → Prop} {s : Shared} {knd : PySem.KeyKind P w κ} {kf : Value → κ}
def kys (kf : Value → κ) (l : List (Int × Value)) : List κ := l.map fun e => kf e.2
def SetG (knd : PySem.KeyKind P w κ) (kf : Value → κ) (h : Heap) (a : Addr) (S : κ → Bool) (n : Nat) : Prop :=
  ∃ o es ep t, h.get? a = some o ∧ o.ExactSet ∧ o.data = .set es ep t ∧ ElemsOf knd es.toList ∧ (kys kf es.toList).Nodup ∧ (∀ k, S k = true ↔ k ∈ kys kf es.toList) ∧ es.size < scanBound ∧ t.fits es.size = true ∧ es.size = n ∧ Ris t.place.toList ∧ (w.params.followText "set-order" = true ∨ t.led = true)
theorem SetG.at {h h' : Heap} {a : Addr} {S : κ → Bool} {n : Nat} (R : SetG knd kf h a S n) (k : ∀ o, h.get? a = some o → h'.get? a = some o) : SetG knd kf h' a S n := by
  obtain ⟨o, es, ep, t, ho, r⟩ := R; exact ⟨o, es, ep, t, k o ho, r⟩
end
section
end
section
end
end Fb
set_option maxHeartbeats 4000000
namespace Fb
open PySem PySem.Spec PyProof.Rows L2
section
end
end Fb
set_option maxHeartbeats 4000000
namespace Fb
open PySem PySem.Spec PyProof.Rows PyProof.V L2
section
end
theorem k_catA {X : Cx} {K : PySem.W.Frag} (h : X.K = K) : OpR X (binaryOp .Add) (rCatA K) := h ▸ op_catA
theorem k_slTA {X : Cx} {K : PySem.W.Frag} (h : X.K = K) : SlR X (rSlA K) := h ▸ sl_tupA
end Fb
set_option maxHeartbeats 4000000
namespace Fb
open PySem PySem.Spec PyProof.Rows L2
end Fb
set_option maxHeartbeats 4000000
namespace Fb
open PySem PySem.Spec PyProof.Rows L2
section
end
section
variable {σ σ2 : L2.St} {H H4 : Hp} {Q : VK} {te : TE}
def Lc2It (J : It) (g : TG) (tt : TT) (wi1 : TI) (g1 : TG) (tt1 : TT) (te : TE) (vs vs1 : List Nat) (σ : L2.St) (H : Hp) (Q : VK) : Prop := tLc2 (fun _ H R => R J H) g tt wi1 g1 tt1 te vs vs1 σ H Q
def InIt (J1 : It) (g1 : TG) (tt1 : TT) (te : TE) (vs1 : List Nat) (D : Addr) (Nx : Hp → Prop) (σ2 : L2.St) (H4 : Hp) : Prop :=
  ∃ W1 : Nat → Nat → Hp → Prop, (∃ m, W1 0 m H4) ∧ ∀ j k H, W1 j k H →
      (J1.stop j H ∧ Nx H) ∨ (J1.go j H ∧ ∃ Nx1 : Hp → Prop, (∀ H', Nx1 H' → ∃ k', k' < k ∧ W1 (j + 1) k' H') ∧ ∀ x H', J1.yld j H x H' → g1 x (wipe σ2 vs1) H' fun σ3 H5 => wipe σ3 vs1 = wipe σ2 vs1 ∧ tt1 σ3 H5 fun b H6 =>
        if b = true then te σ3 H6 fun y H7 => ∃ acc, H7 D = some (.lst acc) ∧ acc.length < sizeLine ∧ Nx1 (upd H7 D (.lst (acc ++ [y]))) else Nx1 H6)
theorem InIt.go {J1 : It} {n : Nat} {G : Hp → Prop} {Y : Nat → Hp → V → Hp → Prop} {g1 : TG} {tt1 : TT} {vs1 : List Nat} {D : Addr} {Nx : Hp → Prop} (w : Walk J1 n G Y) (Pw : Nat → Hp → Prop) (h0 : Pw 0 H4) (hG : ∀ i H, i ≤ n → Pw i H → G H)
    (hs : ∀ i x H H', i < n → Pw i H → Y i H x H' → g1 x (wipe σ2 vs1) H' fun σ3 H5 => wipe σ3 vs1 = wipe σ2 vs1 ∧ tt1 σ3 H5 fun b H6 =>
      if b = true then te σ3 H6 fun y H7 => ∃ acc, H7 D = some (.lst acc) ∧ acc.length < sizeLine ∧ Pw (i + 1) (upd H7 D (.lst (acc ++ [y]))) else Pw (i + 1) H6) (hd : ∀ H, Pw n H → Nx H) : InIt J1 g1 tt1 te vs1 D Nx σ2 H4 := by
  refine ⟨fun i m H => m = n - i ∧ i ≤ n ∧ Pw i H, ⟨n, by simp, Nat.zero_le _, h0⟩, ?_⟩
  rintro i m H ⟨rfl, hi, p⟩
  have q := hG i H hi p
  by_cases hlt : i < n
  · exact .inr ⟨w.goes i H hlt q, Pw (i + 1), fun H' p' => ⟨n - (i + 1), by omega, rfl, hlt, p'⟩, fun x H' y => hs i x H H' hlt p (w.yields i H x H' hlt q y)⟩
  · have e : i = n := by omega
    subst e
    exact .inl ⟨w.stops H q, hd H p⟩
theorem Lc2It.go {J : It} {n : Nat} {G : Hp → Prop} {Y : Nat → Hp → V → Hp → Prop} {g : TG} {tt : TT} {wi1 : TI} {g1 : TG} {tt1 : TT} {vs vs1 : List Nat} (w : Walk J n G Y) (Pv : Addr → Nat → Hp → Prop) (h0 : ∀ D, H D = none → Pv D 0 (upd H D (.lst []))) (hG : ∀ D i H, i ≤ n → Pv D i H → G H)
    (hs : ∀ D i x H H', i < n → Pv D i H → Y i H x H' → g x (wipe σ vs) H' fun σ2 H2 => wipe σ2 vs = wipe σ vs ∧ tt σ2 H2 fun b H3 =>
      if b = true then wi1 σ2 H3 fun J1 H4 => InIt J1 g1 tt1 te vs1 D (Pv D (i + 1)) σ2 H4 else Pv D (i + 1) H3) (hd : ∀ D H', Pv D n H' → Q (.ref D) H') : Lc2It J g tt wi1 g1 tt1 te vs vs1 σ H Q := by
  intro D hD
  refine ⟨fun i m H => m = n - i ∧ i ≤ n ∧ Pv D i H, ⟨n, by simp, Nat.zero_le _, h0 D hD⟩, ?_⟩
  rintro i m H ⟨rfl, hi, p⟩
  have q := hG D i H hi p
  by_cases hlt : i < n
  · exact .inr ⟨w.goes i H hlt q, Pv D (i + 1), fun H' p' => ⟨n - (i + 1), by omega, rfl, hlt, p'⟩, fun x H' y => hs D i x H H' hlt p (w.yields i H x H' hlt q y)⟩
  · have e : i = n := by omega
    subst e
    exact .inl ⟨w.stops H q, hd D H p⟩
end
end Fb
set_option maxHeartbeats 4000000
namespace Fb
open PySem PySem.Spec PyProof.Rows L2
section
variable {P : Program} {w : World} {K : PySem.W.Frag} {mg : Str → Option Value} {base : Heap}
theorem calM_ofX {x : Str} {C : Addr} {fs : List Str} {m qual : Str} {st : Stmt} {N ps : List Str} {k : Nat} {sp : Sp} (O : ClsOk K mg x C fs) (D : MetIn K C m qual st) (S : FnScope N ps (defScope st))
    (b : ∀ (kV doc pm : Value) (an : Option Addr) (cdv ct : Value) (us : List Value), us.length = ps.length → bindArgs (PySem.W.fnOf m qual (defArgs st) (defBody st) (defScope st) .none kV doc pm an cdv ct) ⟨us, []⟩ = pure (ps.zip us))
    (len : ∀ vs H Q E, sp vs H Q E → vs.length = ps.length)
    (hbody : ∀ (f : Addr) (cdv : Value) (A : Around) (outer : List Env) (s : Shared) (H : Hp) (vs : List V) (Q : VK) (E : XK), Room k (A.deeper (envOfC qual (defScope st) s.heap.objs.size f cdv)) → sp vs H Q E →
      ∃ t, PSs (cxOf (L2N.CX P w) P w K mg base N qual (defScope st) f cdv A outer s H E) (defBody st) t ∧ t { nx := fun _ H' => Q .non H', rt := Q } (start N vs) H) : CalM P w K mg base (k + 1) C m sp := by
  obtain ⟨f, fd, F, hm⟩ := D.ex
  exact ⟨f, fd, ps, O.cl, hm, F.okN S len (hbody f), F.binds b⟩
theorem calK_ofX {x : Str} {C : Addr} {fs : List Str} {qual : Str} {st : Stmt} {N ps : List Str} {k : Nat} {sp : Sp} (O : ClsOk K mg x C fs) (D : MkIn K C qual st) (S : FnScope N ps (defScope st))
    (b : ∀ (kV doc pm : Value) (an : Option Addr) (cdv ct : Value) (us : List Value), us.length = ps.length → bindArgs (PySem.W.fnOf "__init__" qual (defArgs st) (defBody st) (defScope st) .none kV doc pm an cdv ct) ⟨us, []⟩ = pure (ps.zip us))
    (len : ∀ vs H Q E, sp vs H Q E → vs.length = ps.length)
    (hbody : ∀ (f : Addr) (cdv : Value) (A : Around) (outer : List Env) (s : Shared) (H : Hp) (vs : List V) (Q : VK) (E : XK), Room k (A.deeper (envOfC qual (defScope st) s.heap.objs.size f cdv)) → sp vs H Q E →
      ∃ t, PSs (cxOf (L2N.CX P w) P w K mg base N qual (defScope st) f cdv A outer s H E) (defBody st) t ∧ t { nx := fun _ H' => Q .non H', rt := Q } (start N vs) H) : CalK P w K mg base (k + 1) x C sp := by
  obtain ⟨f, fd, F, hm⟩ := D.ex
  exact ⟨f, fd, ps, hm, F.okN S len (hbody f), O.mgC, F.binds b⟩
end
section
variable {X : Cx} {k j : Nat} {C : Addr} {x m : Str} {sp : Sp} {p pos apos : Pos} {e o : Expr} {es : List Expr} {ta : TE} {t : L2.TA} {E : XK}
theorem pmX {pl : Sem Bool} (c : CalM X.prog X.w X.K X.mg X.base k C m sp) (hr : Room j X.A) (hk : k ≤ j) (tk : Takes X (fun cls d _ H => E cls d H)) (he : PE X o ta) (ha : PA X (e :: es) t)
    (hst : starEach (e :: es) X.env = (false, eval e X.env) :: starEach es X.env := by rfl) (hpl : (backTo pos (starEach es X.env)).any (·.1) = false := by rfl)
    (ht : eval (.Call (.Attribute o m apos) (e :: es) [] pos) X.env = (do
      let ov ← eval o X.env
      standAt apos.atName
      let (f, first) ← holding [ov] (getMethod ov m pl)
      callWith pos f first (backTo pos (starEach (e :: es) X.env)) (backToKw pos (keywordEach [] X.env))) := by rfl) :
    PE X (.Call (.Attribute o m apos) (e :: es) [] pos) (tMeth C m sp [] E ta t) := by
  obtain ⟨f, fd, ps, hc, hm, F, b⟩ := c.ex
  exact pe_meth (pl := pl) he hc hm F (hr.mono hk) b .nil (passes_call tk fun _ _ _ _ h => h) ha hst hpl ht
theorem pm0X {pl : Sem Bool} (c : CalM X.prog X.w X.K X.mg X.base k C m sp) (hr : Room j X.A) (hk : k ≤ j) (tk : Takes X (fun cls d _ H => E cls d H)) (he : PE X o ta)
    (ht : eval (.Call (.Attribute o m apos) [] [] pos) X.env = (do
      let ov ← eval o X.env
      standAt apos.atName
      let (f, first) ← holding [ov] (getMethod ov m pl)
      callWith pos f first (backTo pos (starEach [] X.env)) (backToKw pos (keywordEach [] X.env))) := by rfl) :
    PE X (.Call (.Attribute o m apos) [] [] pos) (tMeth C m sp [] E ta tNil) := by
  obtain ⟨f, fd, ps, hc, hm, F, b⟩ := c.ex
  exact pe_meth0 (pl := pl) he hc hm F (hr.mono hk) b .nil (passes_call tk fun _ _ _ _ h => h) ht
theorem pkX (c : CalK X.prog X.w X.K X.mg X.base k x C sp) (hr : Room j X.A) (hk : k + 1 ≤ j) (tk : Takes X (fun cls d _ H => E cls d H)) (ha : PA X (e :: es) t) (hg : Gl X x := by rfl)
    (hdb : (x == ("__debug__" : Str)) = false := by decide) (he : starEach (e :: es) X.env = (false, eval e X.env) :: starEach es X.env := by rfl) (hpl : (backTo pos (starEach es X.env)).any (·.1) = false := by rfl) :
    PE X (.Call (.Name x p) (e :: es) [] pos) (tMake C sp [] E t) := by
  obtain ⟨f, fd, ps, M, F, hm, b⟩ := c.ex
  exact pe_make M F (hr.mono hk) hg hm b .nil (passes_call tk fun _ _ _ _ h => h) ha hdb he hpl
end
section
variable {σ : L2.St} {H : Hp} {Q : VK} {ta : TE} {t : L2.TA} {C : Addr} {sp : Sp} {m : Str} {E : XK}
theorem i_methX (h : ta σ H fun x H1 => ∃ a dx fs, x = .ref a ∧ H1 a = some (.ins C dx fs) ∧ fs.lookup m = none ∧ t σ H1 fun vs H2 => sp (x :: vs) H2 Q E) : tMeth C m sp [] E ta t σ H Q := by
  have e : (fun (x : V) (H1 : Hp) => ∃ a dx fs, x = V.ref a ∧ H1 a = some (HO.ins C dx fs) ∧ fs.lookup m = none ∧ t σ H1 fun vs H2 => sp (x :: (vs ++ [])) H2 Q E) = fun x H1 => ∃ a dx fs, x = .ref a ∧ H1 a = some (.ins C dx fs) ∧ fs.lookup m = none ∧ t σ H1 fun vs H2 => sp (x :: vs) H2 Q E := by
    funext x H1
    have : (fun (vs : List V) (H2 : Hp) => sp (x :: (vs ++ [])) H2 Q E) = fun vs H2 => sp (x :: vs) H2 Q E := by
      funext vs H2
      rw [List.append_nil]
    rw [this]
  show ta σ H fun (x : V) (H1 : Hp) => ∃ a dx fs, x = V.ref a ∧ H1 a = some (HO.ins C dx fs) ∧ fs.lookup m = none ∧ t σ H1 fun vs H2 => sp (x :: (vs ++ [])) H2 Q E
  rw [e]
  exact h
theorem i_makeX (h : t σ H fun vs H1 => ∀ x dx, H1 x = none → H1 dx = none → dx ≠ x → sp (.ref x :: vs) (upd (upd H1 dx (.own x)) x (.ins C dx [])) (fun v H2 => v = .non ∧ Q (.ref x) H2) E) : tMake C sp [] E t σ H Q := by
  have e : (fun (vs : List V) (H1 : Hp) => ∀ x dx, H1 x = none → H1 dx = none → dx ≠ x → sp (.ref x :: (vs ++ [])) (upd (upd H1 dx (.own x)) x (.ins C dx [])) (fun v H2 => v = V.non ∧ Q (.ref x) H2) E) = fun vs H1 => ∀ x dx, H1 x = none → H1 dx = none → dx ≠ x → sp (.ref x :: vs) (upd (upd H1 dx (.own x)) x (.ins C dx [])) (fun v H2 => v = .non ∧ Q (.ref x) H2) E := by
    funext vs H1
    rw [List.append_nil]
  show t σ H fun (vs : List V) (H1 : Hp) => ∀ x dx, H1 x = none → H1 dx = none → dx ≠ x → sp (.ref x :: (vs ++ [])) (upd (upd H1 dx (.own x)) x (.ins C dx [])) (fun v H2 => v = V.non ∧ Q (.ref x) H2) E
  rw [e]
  exact h
end
section
end
end Fb
set_option maxHeartbeats 4000000
namespace Fb
open PySem PySem.Spec PyProof.Rows L2 L2H
section
end
section
end
end Fb
set_option maxHeartbeats 4000000
namespace Fb
open PySem PySem.Spec PyProof.Rows L2
section
end
end Fb
set_option maxHeartbeats 4000000
namespace Fb
open PySem PySem.Spec PyProof.Rows L2 PySem.SeqAt
def rEqN (K : PySem.W.Frag) : R2 := fun x y H Q => ∃ (a b : Addr) (xs : List V), x = .ref a ∧ y = .ref b ∧ SqL K H a xs ∧ SqL K H b [] ∧ Q (.bl (decide (xs = []))) H
theorem op_eqN {X : Cx} (hu : X.A.units + 64 < cLine) : OpR X (compareOp .Eq) (rEqN X.K) := by
  intro pins s σ H x y v u Q I rx ry h
  obtain ⟨a, b, xs, rfl, rfl, ha, hb, q⟩ := h
  cases rx
  cases ry
  obtain ⟨its, r1, p1, z1⟩ := I.list ha
  obtain ⟨its2, r2, p2, z2⟩ := I.list hb
  cases r2
  have hl := r1.length
  cases xs with
  | nil =>
    cases r1
    have := RcAt.lists (A := X.A) (e := fun _ => true) p1.isList p2.isList rfl (by omega) (fun j h1 h2 => absurd h1 (by simp))
    exact this X.prog X.w _ _ ⟨.bl true, H, I, rfl, q⟩
  | cons c r =>
    have := RcAt.lists_lengths (A := X.A) p1.isList p2.isList (by rw [List.size_toArray, ← hl]; simp) (by omega)
    exact this X.prog X.w _ _ ⟨.bl false, H, I, rfl, q⟩
theorem k_eqN {X : Cx} {K : PySem.W.Frag} (hk : X.K = K) (hu : X.A.units + 64 < cLine) : OpR X (compareOp .Eq) (rEqN K) := hk ▸ op_eqN hu
def rNeN (K : PySem.W.Frag) : R2 := fun x y H Q => ∃ (a b : Addr) (xs : List V), x = .ref a ∧ y = .ref b ∧ SqL K H a xs ∧ SqL K H b [] ∧ Q (.bl (!decide (xs = []))) H
theorem op_neN {X : Cx} (hu : X.A.units + 64 < cLine) : OpR X (compareOp .NotEq) (rNeN X.K) := by
  intro pins s σ H x y v u Q I rx ry h
  obtain ⟨a, b, xs, rfl, rfl, ha, hb, q⟩ := h
  cases rx
  cases ry
  obtain ⟨its, r1, p1, z1⟩ := I.list ha
  obtain ⟨its2, r2, p2, z2⟩ := I.list hb
  cases r2
  have hl := r1.length
  cases xs with
  | nil =>
    cases r1
    have := RcNeAt.lists (A := X.A) (e := fun _ => true) p1.isList p2.isList rfl (by omega) (fun j h1 h2 => absurd h1 (by simp))
    exact this X.prog X.w _ _ ⟨.bl false, H, I, rfl, q⟩
  | cons c r =>
    have := RcNeAt.lists_lengths (A := X.A) p1.isList p2.isList (by rw [List.size_toArray, ← hl]; simp) (by omega)
    exact this X.prog X.w _ _ ⟨.bl true, H, I, rfl, q⟩
theorem k_neN {X : Cx} {K : PySem.W.Frag} (hk : X.K = K) (hu : X.A.units + 64 < cLine) : OpR X (compareOp .NotEq) (rNeN K) := hk ▸ op_neN hu
end Fb
set_option maxHeartbeats 4000000
namespace Fb
open PySem PySem.Spec PyProof.Rows L2 PySem.HandSPX
def CellO (c : Addr) (v : V) : HO := .ext fun h => ∃ u, RelV v u ∧ h.IsCell c (some u)
structure Fz (cl : List (Str × Addr)) (ns : List Str) (vs : List V) (H H' : Hp) : Prop where
  out : ∀ a, (∀ x, cl.lookup x ≠ some a) → H' a = H a
  inn : ∀ x c, cl.lookup x = some c → H c = none ∧ ∃ (i : Nat) (v : V), ns[i]? = some x ∧ vs[i]? = some v ∧ H' c = some (CellO c v)
  inj : ∀ x y c, cl.lookup x = some c → cl.lookup y = some c → x = y
  nd : ns.Nodup
  len : vs.length = ns.length
section
variable {P : Program} {w : World} {cl : List (Str × Addr)} {ns : List Str} {vs : List V} {H H' H2 : Hp} {h : Heap}
theorem Fz.up (f : Fz cl ns vs H H') {a : Addr} {o : HO} (e : H a = some o) : H' a = some o := by
  rw [f.out a fun x z => by rw [(f.inn x a z).1] at e; cases e]
  exact e
theorem Fz.down (f : Fz cl ns vs H H') {a : Addr} {o : HO} (e : H' a = some o) : H a = some o ∨ ∃ x v, cl.lookup x = some a ∧ o = CellO a v := by
  by_cases q : ∃ x, cl.lookup x = some a
  · obtain ⟨x, q⟩ := q
    obtain ⟨_, i, v, _, _, z⟩ := f.inn x a q
    rw [z] at e
    exact .inr ⟨x, v, q, (Option.some.inj e).symm⟩
  · rw [f.out a fun x z => q ⟨x, z⟩] at e
    exact .inl e
noncomputable def thaw (cl : List (Str × Addr)) (H' H2 : Hp) : Hp := fun a => open Classical in if ∃ x, cl.lookup x = some a then H' a else H2 a
theorem Fz.next (f : Fz cl ns vs H H') (n : ∀ x c, cl.lookup x = some c → H2 c = none) : Fz cl ns vs H2 (thaw cl H' H2) := by
  refine ⟨fun a k => ?_, fun x c e => ⟨n x c e, ?_⟩, f.inj, f.nd, f.len⟩
  · unfold thaw
    rw [if_neg fun ⟨x, z⟩ => k x z]
  · obtain ⟨_, i, v, e1, e2, e3⟩ := f.inn x c e
    refine ⟨i, v, e1, e2, ?_⟩
    unfold thaw
    rw [if_pos ⟨x, e⟩]
    exact e3
theorem Fz.same {H3 H3' : Hp} (f : Fz cl ns vs H H') (g : Fz cl ns vs H3 H3') {x : Str} {c : Addr} (e : cl.lookup x = some c) : H3' c = H' c := by
  obtain ⟨_, i, v, e1, e2, e3⟩ := f.inn x c e
  obtain ⟨_, j, v', d1, d2, d3⟩ := g.inn x c e
  have hi : i < ns.length := (List.getElem?_eq_some_iff.mp e1).1
  have hj : j < ns.length := (List.getElem?_eq_some_iff.mp d1).1
  have ij : i = j := by
    rw [List.getElem?_eq_getElem hi] at e1
    rw [List.getElem?_eq_getElem hj] at d1
    have ee := (Option.some.inj e1).trans (Option.some.inj d1).symm
    rcases Nat.lt_trichotomy i j with q | q | q
    · exact absurd ee (List.pairwise_iff_getElem.mp f.nd i j hi hj q)
    · exact q
    · exact absurd ee.symm (List.pairwise_iff_getElem.mp f.nd j i hj hi q)
  subst ij
  rw [e2] at d2
  cases d2
  rw [e3, d3]
end
structure EndsZ where
  nx : L2.St → Hp → Prop
  rt : V → L2.St → Hp → Prop
abbrev TSZ := EndsZ → L2.St → Hp → Prop
def SPZ (X : Cx) (pins : List (Addr × Obj)) (D : EndsZ) (f : Flow) (s' : Shared) : Prop :=
  match f with
  | .next => ∃ σ' H', Inv X pins σ' H' s' ∧ D.nx σ' H'
  | .brk => False
  | .cont => False
  | .ret u => ∃ v σ' H', Inv X pins σ' H' s' ∧ RelV v u ∧ D.rt v σ' H'
structure PSsZ (X : Cx) (st : List Stmt) (t : TSZ) : Prop where
  run : ∀ (pins : List (Addr × Obj)) (s : Shared) (σ : L2.St) (H : Hp) (D : EndsZ), Inv X pins σ H s → t D σ H → wpAny (model X.prog X.w) X.A (execs st X.env) (SPZ X pins D) X.xe s
section
end
section
end
structure EscS (ns : List Str) (d : LamD) : Prop where
  kind : d.scope.kind = .function
  co : d.scope.isCoroutine = false
  gen : d.scope.isGenerator = false
  own : ∀ y ∈ d.scope.names, y.2 ≠ .local ∧ y.2 ≠ .cell
  df : d.df = none
  bind : ∀ (q : Str) (cl : List (Str × Addr)) (doc pm : Value) (c : Addr) (ctv : Value), bindArgs (lamFd q d cl .none doc pm c ctv) ⟨[], []⟩ = pure []
def escCx (P : Program) (w : World) (K : PySem.W.Frag) (mg : Str → Option Value) (base : Heap) (q : Str) (ns : List Str) (A : Around) (outer : List Env) (s : Shared) (H : Hp) (E : XK) (scope : Scope) (f c' : Addr) (cl : List (Str × Addr)) : Cx where
  prog := P
  w := w
  K := K
  mg := mg
  base := base
  A := A.deeper (PySem.W.envX q scope s.heap.objs.size f (.ref c') cl)
  N := ns
  s_0 := s
  H_0 := H
  env := PySem.W.envX q scope s.heap.objs.size f (.ref c') cl
  outer := outer
  stack := PySem.W.envX q scope s.heap.objs.size f (.ref c') cl :: outer
  ex := []
  fn := fun _ => false
  calm := true
  pn := []
  xe := fun e s' => wpAny (model P w) (A.deeper (PySem.W.envX q scope s.heap.objs.size f (.ref c') cl)) (leaving (PySem.W.envX q scope s.heap.objs.size f (.ref c') cl) e) (fun _ s'' => L2.CX P w outer H s E e s'') (fun e' s'' => L2.CX P w outer H s E e' s'') s'
section
end
structure EscGood (P : Program) (w : World) (K : PySem.W.Frag) (mg : Str → Option Value) (base : Heap) (q : Str) (k : Nat) (d : LamD) (ns : List Str) (t : XK → TE) : Prop where
  S : EscS ns d
  run : ∀ (A : Around) (outer : List Env) (s : Shared) (H : Hp) (E : XK) (f c' : Addr) (cl : List (Str × Addr)), Room k (A.deeper (PySem.W.envX q d.scope s.heap.objs.size f (.ref c') cl)) → PE (escCx P w K mg base q ns A outer s H E d.scope f c' cl) d.body (t E)
section
end
inductive EscGoods (P : Program) (w : World) (K : PySem.W.Frag) (mg : Str → Option Value) (base : Heap) (q : Str) (k : Nat) : List (LamD × List Str × (XK → TE)) → Prop
  | nil : EscGoods P w K mg base q k []
  | cons {d : LamD} {ns : List Str} {t : XK → TE} {ds : List (LamD × List Str × (XK → TE))} (h : EscGood P w K mg base q k d ns t) (r : EscGoods P w K mg base q k ds) : EscGoods P w K mg base q k ((d, ns, t) :: ds)
theorem EscGoods.at {P : Program} {w : World} {K : PySem.W.Frag} {mg : Str → Option Value} {base : Heap} {q : Str} {k : Nat} : ∀ {ds : List (LamD × List Str × (XK → TE))} {j : Nat} {d : LamD} {ns : List Str} {t : XK → TE}, EscGoods P w K mg base q k ds → ds[j]? = some (d, ns, t) → EscGood P w K mg base q k d ns t
  | _, 0, _, _, _, .cons h _, e => by
    cases e
    exact h
  | _, j + 1, _, _, _, .cons _ r, e => EscGoods.at (j := j) r e
section
variable {P : Program} {w : World} {K : PySem.W.Frag} {mg : Str → Option Value} {base : Heap}
theorem PSsZ.nox {X : Cx} {st : List Stmt} {t : TSZ} (h : PSsZ X.nox st t) : PSsZ X st t := ⟨fun pins s σ H D I q => wpAny_mono (h.run pins s σ H D (I.wish _) q) (fun f s1 z => by
  cases f with
  | next => obtain ⟨σ', H', J, z⟩ := z; exact ⟨σ', H', J.unwish, z⟩
  | brk => exact z
  | cont => exact z
  | ret u => obtain ⟨v, σ', H', J, r, z⟩ := z; exact ⟨v, σ', H', J.unwish, r, z⟩) fun _ _ z => z.elim⟩
end
section
variable {K : PySem.W.Frag} {B : List Addr} {H0 H H' : Hp} {L : List (Addr × HO)} {P : List (Hp → Prop)} {cl : List (Str × Addr)} {ns : List Str} {vs : List V}
theorem Fz.tk (f : Fz cl ns vs H H') (h : LamX.Tabs tabT H) : TK H H' := TK.extN (LamX.ExtN.of fun b o e => f.up e) (h.ext fun b o e => f.up e)
end
end Fb
set_option maxHeartbeats 4000000
namespace Fb
open PySem PySem.Spec PyProof.Rows L2 PySem.HandSPX
end Fb
set_option maxHeartbeats 4000000
namespace Fb
open PySem PySem.Spec PyProof.Rows L2 PySem.HandSPX
end Fb
set_option maxHeartbeats 4000000
namespace Fb
open PySem PySem.Spec PyProof.Rows HotX
section
end
end Fb
namespace Fb
open PySem PySem.Spec PyProof.Rows L2 PySem.HandSPX
section
end
end Fb
namespace Fb
open PySem PySem.Spec PyProof.Rows L2
section
end
end Fb
set_option maxHeartbeats 4000000
namespace Fb
open PySem PySem.Spec PyProof.Rows HotX
end Fb
namespace Fb
open PySem PySem.Spec PyProof.Rows L2 L2H HotX
section
end
section
end
end Fb
namespace Fb
open PySem PySem.Spec PyProof.Rows L2 PySem.HandSPX
section
end
section
end
section
end
end Fb
set_option maxHeartbeats 4000000
namespace Fb
open PySem PySem.Spec PyProof.Rows L2
end Fb
set_option maxHeartbeats 4000000
namespace Fb
open PySem PySem.Spec PyProof.Rows L2
end Fb
set_option maxHeartbeats 4000000
namespace Fb
open PySem PySem.Spec PyProof.Rows L2 PySem.HandSPX
section
end
section
end
section
end
end Fb
set_option maxHeartbeats 4000000
namespace Fb
open PySem PySem.Spec PyProof.Rows L2 PySem.HandSPX SrtO
def IsPairK (h : Heap) (v : Value) (x : Key) (y : Int) : Prop := ∃ (a : Addr) (o : Obj) (ku : Value) (u : Tok) (n : Nat), v = .ref a ∧ h.get? a = some o ∧ o.cls = .type "tuple" ∧ o.data = .seq #[ku, .int y u] n ∧ keyIs x ku = true
theorem IsPairK.keeps {h h' : Heap} {v : Value} {x : Key} {y : Int} (p : IsPairK h v x y) (k : ∀ b o, h.get? b = some o → o.cls = .type "tuple" → h'.get? b = some o) : IsPairK h' v x y := by
  obtain ⟨a, o, t, u, n, e, ho, hc, hd⟩ := p
  exact ⟨a, o, t, u, n, e, k _ _ ho hc, hc, hd⟩
section
end
end Fb
set_option maxHeartbeats 4000000
namespace Fb
open PySem PySem.Spec PyProof.Rows L2 L2.DX PySem.Calls PyProof.V PySem.HandSPX
end Fb
set_option maxHeartbeats 4000000
namespace Fb
open PySem PySem.Spec PyProof.Rows L2
section
end
section
end
end Fb
set_option maxHeartbeats 4000000
namespace Fb
open PySem PySem.Spec PyProof.Rows L2
end Fb
set_option maxHeartbeats 4000000
namespace Fb
open PySem PySem.Spec PyProof.Rows L2 PySem.HandSPX
section
variable {K : PySem.W.Frag} {h : Heap} {mg : Str → Option Value} {q C x m : Str} {st : Stmt} {fd : FuncData}
theorem hd_fun {n p : Str} {f : Addr} (F : FunD K n p (defArgs st) (defBody st) (defScope st) [] [] f fd) : Fun K n p st f fd := by
  obtain ⟨⟨oc, od, dV, kV, doc, pm, an, cdv, ct, osl, e, l, c, d, _⟩, kp⟩ := F
  have : dV = .none := by
    rcases d with ⟨_, d⟩ | ⟨d, _⟩
    · exact d
    · exact absurd rfl d
  subst this
  exact ⟨⟨oc, od, kV, doc, pm, an, cdv, ct, osl, e, l, c⟩, kp⟩
theorem hd_def (X : K.In h) (G : h.Ns mainGlobals mg) (c : (He.Fa.glo q).ok K = true) (F : ∃ fd, FunD K q q (defArgs st) (defBody st) (defScope st) [] [] (He.fAd K (q, none)) fd) : DefIn K mg q q st := by
  obtain ⟨fd, F⟩ := F
  exact ⟨_, fd, hd_fun F, He.glo_ok X G c⟩
theorem hd_cls (X : K.In h) (G : h.Ns mainGlobals mg) (c : (He.Fa.glo x).ok K = true) (c2 : (He.Fa.cls x).ok K = true) {fs : List Str} (no : ∀ f ∈ fs, NoAttr K (He.ga K x) f) : ClsOk K mg x (He.ga K x) fs := ⟨He.glo_ok X G c, He.cls_ok c2, no⟩
theorem hd_met (c : (He.Fa.meth x m).ok K = true) (F : ∃ fd, FunD K m q (defArgs st) (defBody st) (defScope st) [] [] (He.fAd K (x, some m)) fd) : MetIn K (He.ga K x) m q st := by
  obtain ⟨fd, F⟩ := F
  exact ⟨_, fd, hd_fun F, He.meth_ok c⟩
theorem hd_mk (c : (He.Fa.mkr x).ok K = true) (F : ∃ fd, FunD K "__init__" q (defArgs st) (defBody st) (defScope st) [] [] (He.fAd K (x, some "__init__")) fd) : MkIn K (He.ga K x) q st := by
  obtain ⟨fd, F⟩ := F
  exact ⟨_, fd, hd_fun F, He.mkr_ok c⟩
def hdInit (K : PySem.W.Frag) (C : Str) (as : List Str) : Bool := He.eqO (PySem.W.findIn K (.ref (He.ga K C)) "__init__") (some (some (.ref (He.fAd K (C, some "__init__"))))) && oexAll K (He.ga K C) (He.fAd K (C, some "__init__")) as
def hdFe (K : PySem.W.Frag) : Bool := He.eqO (PySem.W.specialIn K (.ref (He.ga K "FerryError")) "__getattribute__") (some (some (.builtin "type.__getattribute__"))) && (PySem.W.readsIn K (He.ga K "FerryError") (.type "type") && (match PySem.W.findCls K (.ref (He.ga K "FerryError")) (.type "type") "__init__" with
  | some (.val (.builtin n)) => decide (n = "ValueError.__init__")
  | _ => false))
theorem hdInit_ok {as : List Str} (c : hdInit K C as = true) : PySem.W.findIn K (.ref (He.ga K C)) "__init__" = some (some (.ref (He.fAd K (C, some "__init__")))) ∧ oexAll K (He.ga K C) (He.fAd K (C, some "__init__")) as = true := by
  obtain ⟨h1, h2⟩ := He.ba c
  exact ⟨He.eqO_ok h1, h2⟩
theorem hdFe_ok (c : hdFe K = true) : PySem.W.specialIn K (.ref (He.ga K "FerryError")) "__getattribute__" = some (some (.builtin "type.__getattribute__")) ∧ PySem.W.readsIn K (He.ga K "FerryError") (.type "type") = true ∧ PySem.W.findCls K (.ref (He.ga K "FerryError")) (.type "type") "__init__" = some (.val (.builtin "ValueError.__init__")) := by
  obtain ⟨h1, h2⟩ := He.ba c
  obtain ⟨h2, h3⟩ := He.ba h2
  refine ⟨He.eqO_ok h1, h2, ?_⟩
  split at h3
  · rename_i n e
    rw [e, of_decide_eq_true h3]
  · cases h3
end
def KY (as : List Addr) (g : Addr → Option Obj) : PySem.W.Frag := He.frT g as
def obsY (as : List Addr) (fa : List He.Fa) (fn : List He.DefD) (ts : List He.Tab) (tf : List He.Defn) (ex : PySem.W.Frag → Bool) (g : Addr → Option Obj) : He.AlX := (He.obsT fa fn ts (KY as g), ex (KY as g) && He.tabsB g tf (KY as g))
theorem saysY_of {as : List Addr} {fa : List He.Fa} {fn : List He.DefD} {ts : List He.Tab} {tf : List He.Defn} {ex : PySem.W.Frag → Bool} {w : World} {h : Heap} (e : obsY as fa fn ts tf ex h.get? = He.valX fn ts w) : He.SaysX fa fn ts tf ex w h (KY as h.get?) := by
  have e1 : He.obsT fa fn ts (KY as h.get?) = He.valT fn ts w := congrArg (fun z : He.AlX => z.1) e
  have e2 : (ex (KY as h.get?) && He.tabsB h.get? tf (KY as h.get?)) = true := congrArg (fun z : He.AlX => z.2) e
  obtain ⟨h1, h2⟩ := He.ba e2
  have key : ∀ p ∈ tf, PySem.W.codeHdIn (KY as h.get?) (He.cT (KY as h.get?) p).1 (He.cT (KY as h.get?) p).2 = true ∧ ∃ o, h.get? (He.cT (KY as h.get?) p).2 = some o ∧ He.emptyTab o = true := fun p hp => by
    obtain ⟨h3, h4⟩ := He.ba (List.all_eq_true.mp h2 p hp)
    refine ⟨h3, ?_⟩
    cases q : h.get? (He.cT (KY as h.get?) p).2 with
    | none =>
      rw [q] at h4
      cases h4
    | some o =>
      rw [q] at h4
      exact ⟨o, rfl, h4⟩
  exact ⟨e1, h1, fun p hp => (key p hp).1, fun p hp => by
    obtain ⟨_, o, q, z⟩ := key p hp
    exact He.frT_none q z, fun p hp => by
    obtain ⟨_, o, q, z⟩ := key p hp
    rw [q, He.emptyTab_eq z]⟩
structure Prt where
  fa : List He.Fa
  fn : List He.DefD
  ts : List He.Tab
  tf : List He.Defn
  ex : PySem.W.Frag → Bool
def Prt.obs (as : List Addr) (p : Prt) (g : Addr → Option Obj) : He.AlX := obsY as p.fa p.fn p.ts p.tf p.ex g
def Prt.val (p : Prt) (w : World) : He.AlX := He.valX p.fn p.ts w
def Prt.says (p : Prt) (w : World) (h : Heap) (K : PySem.W.Frag) : Prop := He.SaysX p.fa p.fn p.ts p.tf p.ex w h K
def hookY (as : List Addr) (ps : List Prt) : PySem.W.Hook where
  α := List He.AlX
  obs := fun s => ps.map fun p => p.obs as s.heap.get?
  val := fun w => ps.map fun p => p.val w
  says := fun w h => ∃ K : PySem.W.Frag, K.In h ∧ ∀ p ∈ ps, p.says w h K
  of := fun _ _ e => ⟨_, He.frT_in, fun p hp => saysY_of (List.map_inj_left.mp e p hp)⟩
  keeps := fun _ _ _ ⟨K, hK, c⟩ k => ⟨K, PySem.W.Frag.In.keeps hK k, fun p hp => ⟨(c p hp).t, (c p hp).more, (c p hp).hd, (c p hp).out, fun q hq => k _ _ ((c p hp).empty q hq)⟩⟩
def obY (as : List Addr) (ps : List Prt) (s : PySem.W.SharedT) : List He.AlX := ps.map fun p => p.obs as (HandSHeadRun.getT s)
theorem obY_eq (as : List Addr) (ps : List Prt) (s : PySem.W.SharedT) : obY as ps s = (hookY as ps).obs s.abs := by
  have e : HandSHeadRun.getT s = s.abs.heap.get? := funext (HandSHeadRun.getT_eq s)
  unfold obY
  rw [e]
  rfl
theorem map_one {S A B X : Type} {o : Option S} {f : S → A} {g : S → B} {k : S → X} {a : A} {b : B} {x : X} (h : o.map (fun s => (f s, g s, k s)) = some (a, b, x)) : o.map (fun s => (f s, g s, [k s])) = some (a, b, [x]) := by
  cases o with
  | none => cases h
  | some s =>
    have h := Option.some.inj h
    obtain ⟨h1, h2⟩ := Prod.mk.inj h
    obtain ⟨h2, h3⟩ := Prod.mk.inj h2
    show some (f s, g s, [k s]) = _
    rw [h1, h2, h3]
theorem map_app {S A B X : Type} {o : Option S} {f : S → A} {g : S → B} {k l : S → List X} {a : A} {b : B} {x y : List X} (h : o.map (fun s => (f s, g s, k s)) = some (a, b, x)) (h' : o.map (fun s => (f s, g s, l s)) = some (a, b, y)) : o.map (fun s => (f s, g s, k s ++ l s)) = some (a, b, x ++ y) := by
  cases o with
  | none => cases h
  | some s =>
    have h := Option.some.inj h
    obtain ⟨h1, h2⟩ := Prod.mk.inj h
    obtain ⟨h2, h3⟩ := Prod.mk.inj h2
    have h' := Option.some.inj h'
    obtain ⟨_, h4⟩ := Prod.mk.inj h'
    obtain ⟨_, h5⟩ := Prod.mk.inj h4
    show some (f s, g s, k s ++ l s) = _
    rw [h1, h2, h3, h5]
def RunP (r : PySem.W.OpenRow) (q : Program) (as : List Addr) (p : Prt) (M : Nat) (loose : List PySem.Str) (w : World) : Prop :=
  ∀ os : OsState, (HandSHeadRun.endF (HandSHeadRun.stepQ (HandSHeadRun.denQ HandSHeadRun.tabQ) r.prog w) M r.prog w os).map (fun s => (HandSHeadRun.looksF r.prog (PySem.W.boot_heap w.params) s.abs, HandSHeadRun.seenQ q loose (PySem.importedModules r.prog.main.body) (fun s => PySem.W.xlAt q [] s && PySem.W.recOk r.toRowW.records s) s.abs, p.obs as (HandSHeadRun.getT s))) = some (true, PySem.W.openGood q loose, p.val w)
def RunL (r : PySem.W.OpenRow) (q : Program) (as : List Addr) (ps : List Prt) (M : Nat) (loose : List PySem.Str) (w : World) : Prop :=
  ∀ os : OsState, (HandSHeadRun.endF (HandSHeadRun.stepQ (HandSHeadRun.denQ HandSHeadRun.tabQ) r.prog w) M r.prog w os).map (fun s => (HandSHeadRun.looksF r.prog (PySem.W.boot_heap w.params) s.abs, HandSHeadRun.seenQ q loose (PySem.importedModules r.prog.main.body) (fun s => PySem.W.xlAt q [] s && PySem.W.recOk r.toRowW.records s) s.abs, obY as ps s)) = some (true, PySem.W.openGood q loose, ps.map fun p => p.val w)
section
variable {r : PySem.W.OpenRow} {q : Program} {as : List Addr} {p : Prt} {ps qs : List Prt} {M : Nat} {loose : List PySem.Str} {w : World}
theorem RunP.l (h : RunP r q as p M loose w) : RunL r q as [p] M loose w := fun os => map_one (h os)
theorem RunL.app (h : RunL r q as ps M loose w) (k : RunL r q as qs M loose w) : RunL r q as (ps ++ qs) M loose w := fun os => by
  have e := map_app (h os) (k os)
  have e1 : obY as (ps ++ qs) = fun s => obY as ps s ++ obY as qs s := funext fun s => List.map_append
  rw [e1, List.map_append]
  exact e
theorem RunL.run (h : RunL r q as ps M loose w) : HandSHeadRun.RunEq r q (hookY as ps) (obY as ps) M loose w := h
end
def strsIn : List Value → List Str → Bool
  | [], [] => true
  | .str z _ :: vs, y :: zs => decide (z = y) && strsIn vs zs
  | _, _ => false
theorem strsIn_ok : ∀ {vs : List Value} {zs : List Str}, strsIn vs zs = true → Vals (zs.map V.str) vs
  | [], [], _ => .nil
  | .str z t :: vs, y :: zs, h => by
    have h : (decide (z = y) && strsIn vs zs) = true := h
    rw [Bool.and_eq_true] at h
    obtain rfl := of_decide_eq_true h.1
    exact .cons ⟨t, rfl⟩ (strsIn_ok h.2)
  | [], _ :: _, h => by simp [strsIn] at h
  | .str _ _ :: _, [], h => by simp [strsIn] at h
def hdTup (K : PySem.W.Frag) (c : Str) (zs : List Str) : Bool := match K.lookup (He.ga K c) with
  | some ⟨.type t, _, .seq its _, _⟩ => decide (t = "tuple") && (decide (its.size ≤ 1000) && strsIn its.toList zs)
  | _ => false
theorem hdTup_ok {K : PySem.W.Frag} {h : Heap} {mg : Str → Option Value} {q : Str} {zs : List Str} (X : K.In h) (G : h.Ns mainGlobals mg) (c : (He.Fa.glo q).ok K = true) (t : hdTup K q zs = true) : ∃ a, mg q = some (.ref a) ∧ ∀ H, SqT K H a (zs.map V.str) := by
  refine ⟨_, He.glo_ok X G c, fun H => .inr ?_⟩
  unfold hdTup at t
  split at t
  · rename_i ty d its n sl e
    rw [Bool.and_eq_true, Bool.and_eq_true] at t
    obtain ⟨h1, h2, h3⟩ := t
    obtain rfl := of_decide_eq_true h1
    exact ⟨_, its, n, e, rfl, rfl, Nat.le_trans (of_decide_eq_true h2) (by decide), strsIn_ok h3⟩
  · cases t
end Fb
open PySem PySem.Spec PyProof.Rows L2 in
local macro_rules | `(tactic| walk_at "go1") => `(tactic| with_reducible first
  | refine Fb.i_seq ?_ | refine Fb.i_asg ?_ | refine Fb.i_name ?_ | refine Fb.i_if ?_ | refine Fb.i_ret ?_ | refine Fb.i_retN ?_ | refine Fb.i_next ?_ | refine Fb.i_drop ?_ | refine Fb.i_brk ?_ | refine Fb.i_cont ?_
  | (refine' Fb.i_var ?e ?_; (case e => with_unfolding_all exact rfl))
  | refine Fb.i_c ?_ | refine Fb.i_op ?_ | refine Fb.i_un ?_ | refine Fb.i_I0 ?_ | refine Fb.i_U ?_ | refine Fb.i_eqI ?_ | refine Fb.i_neI ?_ | refine Fb.i_eqS ?_ | refine Fb.i_neS ?_ | refine Fb.i_eqB ?_ | refine Fb.i_neB ?_
  | refine Fb.i_test ?_ | refine Fb.i_tB ?_ | refine Fb.i_bl ?_ | refine Fb.i_and ?_ | refine Fb.i_or ?_ | refine Fb.i_not ?_ | refine Fb.i_andV ?_ | refine Fb.i_orV ?_ | refine Fb.i_notV ?_ | refine Fb.i_ifE ?_ | refine Fb.i_chain ?_
  | refine Fb.i_nil ?_ | refine Fb.i_cons ?_ | refine Fb.i_cb ?_ | refine Fb.i_call ?_ | refine Fb.i_tup ?_ | refine Fb.i_lst ?_ | refine Fb.i_for ?_ | refine Fb.i_iL ?_ | refine Fb.i_iT ?_ | refine Fb.i_iR ?_ | refine Fb.i_iR3 ?_ | refine Fb.i_intB ?_ | refine Fb.i_dc ?_ | refine Fb.i_listVals ?_ | refine Fb.i_iK ?_ | refine Fb.i_iE ?_ | refine Fb.i_iS ?_ | refine Fb.i_inC ?_ | refine Fb.i_iZ ?_ | refine Fb.i_lc ?_ | refine Fb.i_lenSet ?_ | refine Fb.i_augS ?_ | refine Fb.i_ipI ?_
  | (refine' Fb.i_aug ?e ?_; (case e => with_unfolding_all exact rfl))
  | refine Fb.i_bmT ?_ | refine Fb.i_bm ?_ | refine Fb.i_bm0 ?_ | refine Fb.i_dget ?_ | refine Fb.i_din ?_ | refine Fb.i_dnotin ?_ | refine Fb.i_dget2 ?_ | refine Fb.i_dput ?_
  | refine Fb.i_max ?_ | refine Fb.i_min ?_ | refine Fb.i_int ?_ | refine Fb.i_gcons ?_ | refine Fb.i_gnil ?_ | refine Fb.i_gsub ?_ | refine Fb.i_fld ?_ | refine Fb.i_meth ?_ | refine Fb.i_sfld ?_ | refine Fb.i_yes ?_ | refine Fb.i_par ?_ | refine Fb.i_par3 ?_)
local macro_rules | `(tactic| walk_at "go") => `(tactic| repeat (first | walk_at "go1" | dsimp only [L2.kV]))
open PySem PySem.Spec PyProof.Rows L2 in
local macro_rules | `(tactic| walk_at "gi1") => `(tactic| with_reducible first
  | refine Fb.i_seq ?_ | refine Fb.i_asg ?_ | refine Fb.i_name ?_ | refine Fb.i_ret ?_ | refine Fb.i_retN ?_ | refine Fb.i_next ?_ | refine Fb.i_drop ?_ | refine Fb.i_brk ?_ | refine Fb.i_cont ?_
  | (refine' Fb.i_var ?e ?_; (case e => with_unfolding_all exact rfl))
  | refine Fb.i_c ?_ | refine Fb.i_op ?_ | refine Fb.i_un ?_ | refine Fb.i_I0 ?_ | refine Fb.i_U ?_ | refine Fb.i_eqI ?_ | refine Fb.i_neI ?_ | refine Fb.i_eqS ?_ | refine Fb.i_neS ?_ | refine Fb.i_eqB ?_ | refine Fb.i_neB ?_
  | refine Fb.i_test ?_ | refine Fb.i_tB ?_ | refine Fb.i_bl ?_ | refine Fb.i_and ?_ | refine Fb.i_or ?_ | refine Fb.i_not ?_ | refine Fb.i_notV ?_ | refine Fb.i_chain ?_
  | refine Fb.i_nil ?_ | refine Fb.i_cons ?_ | refine Fb.i_cb ?_ | refine Fb.i_call ?_ | refine Fb.i_tup ?_ | refine Fb.i_lst ?_ | refine Fb.i_for ?_ | refine Fb.i_iL ?_ | refine Fb.i_iT ?_ | refine Fb.i_iR ?_ | refine Fb.i_iR3 ?_ | refine Fb.i_intB ?_ | refine Fb.i_dc ?_ | refine Fb.i_listVals ?_ | refine Fb.i_iK ?_ | refine Fb.i_iE ?_ | refine Fb.i_iS ?_ | refine Fb.i_inC ?_ | refine Fb.i_iZ ?_ | refine Fb.i_lc ?_ | refine Fb.i_lenSet ?_ | refine Fb.i_augS ?_ | refine Fb.i_ipI ?_
  | (refine' Fb.i_aug ?e ?_; (case e => with_unfolding_all exact rfl))
  | refine Fb.i_bmT ?_ | refine Fb.i_bm ?_ | refine Fb.i_bm0 ?_ | refine Fb.i_dget ?_ | refine Fb.i_din ?_ | refine Fb.i_dnotin ?_ | refine Fb.i_dget2 ?_ | refine Fb.i_dput ?_
  | refine Fb.i_max ?_ | refine Fb.i_min ?_ | refine Fb.i_int ?_ | refine Fb.i_gcons ?_ | refine Fb.i_gnil ?_ | refine Fb.i_gsub ?_ | refine Fb.i_fld ?_ | refine Fb.i_meth ?_ | refine Fb.i_sfld ?_ | refine Fb.i_yes ?_ | refine Fb.i_par ?_ | refine Fb.i_par3 ?_)
local macro_rules | `(tactic| walk_at "gi") => `(tactic| repeat (first | walk_at "gi1" | dsimp only [L2.kV]))
local macro_rules | `(tactic| walk_at "begin") => `(tactic| ((try (dsimp only [L2.cxOf, L2.Cx.nox, L2.Cx.wish, L2.Cx.blk])); walk_at "go"))
local macro_rules | `(tactic| walk_at "sq") => `(tactic| first
  | assumption
  | (refine' Fb.TupAt.sq (Fb.TupAt.keep (Fb.Stt.tk ?s) ?h); (case s => assumption); (case h => assumption))
  | (refine' L2.Same.seq (Fb.Stt.same ?s) ?h; (case s => assumption); (case h => assumption))
  | (refine' Fb.Stt.sqL ?s 0 ?e; (case s => assumption); (case e => exact rfl))
  | (refine' Fb.Stt.sqL ?s 1 ?e; (case s => assumption); (case e => exact rfl))
  | (refine' Fb.Stt.sqL ?s 2 ?e; (case s => assumption); (case e => exact rfl))
  | (refine' Fb.Stt.sqL ?s 3 ?e; (case s => assumption); (case e => exact rfl))
  | (refine' Fb.Stt.sqL ?s 4 ?e; (case s => assumption); (case e => exact rfl))
  | (refine' Fb.Stt.sqL ?s 5 ?e; (case s => assumption); (case e => exact rfl))
  | (refine' Fb.Stt.sqT ?s 0 ?e; (case s => assumption); (case e => exact rfl))
  | (refine' Fb.Stt.sqT ?s 1 ?e; (case s => assumption); (case e => exact rfl))
  | (refine' Fb.Stt.sqT ?s 2 ?e; (case s => assumption); (case e => exact rfl))
  | (refine' Fb.Stt.sqT ?s 3 ?e; (case s => assumption); (case e => exact rfl))
  | (refine' Fb.Stt.sqT ?s 4 ?e; (case s => assumption); (case e => exact rfl))
  | (refine' Fb.Stt.sqT ?s 5 ?e; (case s => assumption); (case e => exact rfl))
  | (refine' Fb.Stt.sqT ?s 6 ?e; (case s => assumption); (case e => exact rfl)))
local macro_rules | `(tactic| walk_at "at") => `(tactic| first
  | (refine' Fb.Stt.at ?s 0 ?e; (case s => assumption); (case e => exact rfl))
  | (refine' Fb.Stt.at ?s 1 ?e; (case s => assumption); (case e => exact rfl))
  | (refine' Fb.Stt.at ?s 2 ?e; (case s => assumption); (case e => exact rfl))
  | (refine' Fb.Stt.at ?s 3 ?e; (case s => assumption); (case e => exact rfl))
  | (refine' Fb.Stt.at ?s 4 ?e; (case s => assumption); (case e => exact rfl))
  | (refine' Fb.Stt.at ?s 5 ?e; (case s => assumption); (case e => exact rfl)))
namespace Fb
open PySem PySem.Spec PyProof.Rows L2
def top (i : Nat) : Stmt := PySem.Challenge.pw_fullboats_k45_canonical_form.main.body.getD i (.Pass ⟨0, 0, 0, 0⟩)
abbrev s_ScriptSyntaxError___init : Stmt := inClass (top 2) 0
abbrev s_Token___init : Stmt := inClass (top 13) 0
abbrev s_end_of_run : Stmt := top 14
abbrev s_token_at : Stmt := top 15
abbrev s_tokenize : Stmt := top 16
abbrev s_Parser___init : Stmt := inClass (top 23) 0
abbrev s_Parser_fail : Stmt := inClass (top 23) 1
abbrev s_Parser_peek : Stmt := inClass (top 23) 2
abbrev s_Parser_sees_form : Stmt := inClass (top 23) 3
abbrev s_Parser_accept : Stmt := inClass (top 23) 4
abbrev s_Parser_expect : Stmt := inClass (top 23) 5
abbrev s_Parser_take : Stmt := inClass (top 23) 6
abbrev s_Parser_take_name : Stmt := inClass (top 23) 7
abbrev s_Parser_parse_script : Stmt := inClass (top 23) 8
abbrev s_Parser_parse_block : Stmt := inClass (top 23) 9
abbrev s_Parser_parse_statement : Stmt := inClass (top 23) 10
abbrev s_Parser_parse_link : Stmt := inClass (top 23) 11
abbrev s_Parser_parse_if : Stmt := inClass (top 23) 12
abbrev s_Parser_parse_sum : Stmt := inClass (top 23) 13
abbrev s_Parser_parse_product : Stmt := inClass (top 23) 14
abbrev s_Parser_parse_factor : Stmt := inClass (top 23) 15
abbrev s_parse_script : Stmt := top 24
abbrev s_level_of : Stmt := top 30
abbrev s_print_operand : Stmt := top 31
abbrev s_print_expression : Stmt := top 32
abbrev s_print_target : Stmt := top 33
abbrev s_print_block : Stmt := top 34
abbrev s_print_statement : Stmt := top 35
abbrev s_print_lines : Stmt := top 36
abbrev s_print_script : Stmt := top 37
abbrev s_format_script : Stmt := top 38
abbrev s_law_start : Stmt := top 40
abbrev s_law_drawn : Stmt := top 41
abbrev s_law_value : Stmt := top 43
abbrev s_law_statement : Stmt := top 44
abbrev s_law_block : Stmt := top 45
abbrev s_law_level : Stmt := top 46
abbrev s_law_print : Stmt := top 47
abbrev s_law_lines : Stmt := top 48
abbrev s_law_compound : Stmt := top 49
abbrev s_law_script : Stmt := top 50
abbrev s_law_tokens : Stmt := top 51
abbrev s_law_glues : Stmt := top 52
abbrev s_law_messy : Stmt := top 53
abbrev s_law_wrapped : Stmt := top 54
abbrev s_law_wrapped_operand : Stmt := top 55
abbrev s_law : Stmt := top 56
theorem sc_Token___init : FnScope ["self", "form", "text", "place"] ["self", "form", "text", "place"] (defScope s_Token___init) := ⟨rfl, rfl, rfl, by decide +kernel, rfl, by decide +kernel, by decide +kernel⟩
theorem sc_end_of_run : FnScope ["line", "start", "characters", "end"] ["line", "start", "characters"] (defScope s_end_of_run) := ⟨rfl, rfl, rfl, by decide +kernel, rfl, by decide +kernel, by decide +kernel⟩
theorem sc_token_at : FnScope ["line", "row", "column", "word", "digits", "sign"] ["line", "row", "column"] (defScope s_token_at) := ⟨rfl, rfl, rfl, by decide +kernel, rfl, by decide +kernel, by decide +kernel⟩
theorem sc_tokenize : FnScope ["source", "tokens", "row", "line", "column"] ["source"] (defScope s_tokenize) := ⟨rfl, rfl, rfl, by decide +kernel, rfl, by decide +kernel, by decide +kernel⟩
theorem sc_Parser___init : FnScope ["self", "source"] ["self", "source"] (defScope s_Parser___init) := ⟨rfl, rfl, rfl, by decide +kernel, rfl, by decide +kernel, by decide +kernel⟩
theorem sc_Parser_fail : FnScope ["self", "row", "column"] ["self"] (defScope s_Parser_fail) := ⟨rfl, rfl, rfl, by decide +kernel, rfl, by decide +kernel, by decide +kernel⟩
theorem sc_Parser_peek : FnScope ["self"] ["self"] (defScope s_Parser_peek) := ⟨rfl, rfl, rfl, by decide +kernel, rfl, by decide +kernel, by decide +kernel⟩
theorem sc_Parser_sees_form : FnScope ["self", "form"] ["self", "form"] (defScope s_Parser_sees_form) := ⟨rfl, rfl, rfl, by decide +kernel, rfl, by decide +kernel, by decide +kernel⟩
theorem sc_Parser_accept : FnScope ["self", "text", "found"] ["self", "text"] (defScope s_Parser_accept) := ⟨rfl, rfl, rfl, by decide +kernel, rfl, by decide +kernel, by decide +kernel⟩
theorem sc_Parser_expect : FnScope ["self", "text"] ["self", "text"] (defScope s_Parser_expect) := ⟨rfl, rfl, rfl, by decide +kernel, rfl, by decide +kernel, by decide +kernel⟩
theorem sc_Parser_take : FnScope ["self", "form"] ["self", "form"] (defScope s_Parser_take) := ⟨rfl, rfl, rfl, by decide +kernel, rfl, by decide +kernel, by decide +kernel⟩
theorem sc_Parser_take_name : FnScope ["self"] ["self"] (defScope s_Parser_take_name) := ⟨rfl, rfl, rfl, by decide +kernel, rfl, by decide +kernel, by decide +kernel⟩
theorem sc_Parser_parse_script : FnScope ["self", "statements"] ["self"] (defScope s_Parser_parse_script) := ⟨rfl, rfl, rfl, by decide +kernel, rfl, by decide +kernel, by decide +kernel⟩
theorem sc_Parser_parse_block : FnScope ["self", "statements"] ["self"] (defScope s_Parser_parse_block) := ⟨rfl, rfl, rfl, by decide +kernel, rfl, by decide +kernel, by decide +kernel⟩
theorem sc_Parser_parse_statement : FnScope ["self", "keyword", "value", "name", "count"] ["self"] (defScope s_Parser_parse_statement) := ⟨rfl, rfl, rfl, by decide +kernel, rfl, by decide +kernel, by decide +kernel⟩
theorem sc_Parser_parse_link : FnScope ["self", "station", "seat", "target"] ["self"] (defScope s_Parser_parse_link) := ⟨rfl, rfl, rfl, by decide +kernel, rfl, by decide +kernel, by decide +kernel⟩
theorem sc_Parser_parse_if : FnScope ["self", "left", "comparison", "right", "block"] ["self"] (defScope s_Parser_parse_if) := ⟨rfl, rfl, rfl, by decide +kernel, rfl, by decide +kernel, by decide +kernel⟩
theorem sc_Parser_parse_sum : FnScope ["self", "value", "operator"] ["self"] (defScope s_Parser_parse_sum) := ⟨rfl, rfl, rfl, by decide +kernel, rfl, by decide +kernel, by decide +kernel⟩
theorem sc_Parser_parse_product : FnScope ["self", "value", "operator"] ["self"] (defScope s_Parser_parse_product) := ⟨rfl, rfl, rfl, by decide +kernel, rfl, by decide +kernel, by decide +kernel⟩
theorem sc_Parser_parse_factor : FnScope ["self", "value", "port"] ["self"] (defScope s_Parser_parse_factor) := ⟨rfl, rfl, rfl, by decide +kernel, rfl, by decide +kernel, by decide +kernel⟩
theorem sc_parse_script : FnScope ["source"] ["source"] (defScope s_parse_script) := ⟨rfl, rfl, rfl, by decide +kernel, rfl, by decide +kernel, by decide +kernel⟩
theorem sc_level_of : FnScope ["value"] ["value"] (defScope s_level_of) := ⟨rfl, rfl, rfl, by decide +kernel, rfl, by decide +kernel, by decide +kernel⟩
theorem sc_print_operand : FnScope ["value", "level", "text"] ["value", "level"] (defScope s_print_operand) := ⟨rfl, rfl, rfl, by decide +kernel, rfl, by decide +kernel, by decide +kernel⟩
theorem sc_print_expression : FnScope ["value", "form", "level"] ["value"] (defScope s_print_expression) := ⟨rfl, rfl, rfl, by decide +kernel, rfl, by decide +kernel, by decide +kernel⟩
theorem sc_print_target : FnScope ["target"] ["target"] (defScope s_print_target) := ⟨rfl, rfl, rfl, by decide +kernel, rfl, by decide +kernel, by decide +kernel⟩
theorem sc_print_block : FnScope ["head", "block", "tail", "line"] ["head", "block", "tail"] (defScope s_print_block) := ⟨rfl, rfl, rfl, by decide +kernel, rfl, by decide +kernel, by decide +kernel⟩
theorem sc_print_statement : FnScope ["statement", "keyword", "station", "seat", "left", "comparison", "right", "block", "other", "head", "lines"] ["statement"] (defScope s_print_statement) := ⟨rfl, rfl, rfl, by decide +kernel, rfl, by decide +kernel, by decide +kernel⟩
theorem sc_print_lines : FnScope ["block", "lines", "statement"] ["block"] (defScope s_print_lines) := ⟨rfl, rfl, rfl, by decide +kernel, rfl, by decide +kernel, by decide +kernel⟩
theorem sc_print_script : FnScope ["block"] ["block"] (defScope s_print_script) := ⟨rfl, rfl, rfl, by decide +kernel, rfl, by decide +kernel, by decide +kernel⟩
theorem sc_format_script : FnScope ["source"] ["source"] (defScope s_format_script) := ⟨rfl, rfl, rfl, by decide +kernel, rfl, by decide +kernel, by decide +kernel⟩
theorem sc_law_start : FnScope ["_law_script_here", "_law_mixed", "_law_cell"] ["_law_script_here"] (defScope s_law_start) := ⟨rfl, rfl, rfl, by decide +kernel, rfl, by decide +kernel, by decide +kernel⟩
theorem sc_law_drawn : FnScope ["_law_state", "_law_count", "_law_result", "_law_cell"] ["_law_state", "_law_count"] (defScope s_law_drawn) := ⟨rfl, rfl, rfl, by decide +kernel, rfl, by decide +kernel, by decide +kernel⟩
theorem sc_law_value : FnScope ["_law_state", "_law_deep", "_law_branch", "_law_number", "_law_operator"] ["_law_state", "_law_deep"] (defScope s_law_value) := ⟨rfl, rfl, rfl, by decide +kernel, rfl, by decide +kernel, by decide +kernel⟩
theorem sc_law_statement : FnScope ["_law_state", "_law_deep", "_law_branch", "_law_small", "_law_value_here", "_law_target", "_law_count", "_law_comparison", "_law_other", "_law_head"] ["_law_state", "_law_deep"] (defScope s_law_statement) := ⟨rfl, rfl, rfl, by decide +kernel, rfl, by decide +kernel, by decide +kernel⟩
theorem sc_law_block : FnScope ["_law_state", "_law_deep", "_law_k"] ["_law_state", "_law_deep"] (defScope s_law_block) := ⟨rfl, rfl, rfl, by decide +kernel, rfl, by decide +kernel, by decide +kernel⟩
theorem sc_law_level : FnScope ["_law_value_here"] ["_law_value_here"] (defScope s_law_level) := ⟨rfl, rfl, rfl, by decide +kernel, rfl, by decide +kernel, by decide +kernel⟩
theorem sc_law_print : FnScope ["_law_value_here", "_law_level_here", "_law_form", "_law_text", "_law_mine"] ["_law_value_here", "_law_level_here"] (defScope s_law_print) := ⟨rfl, rfl, rfl, by decide +kernel, rfl, by decide +kernel, by decide +kernel⟩
theorem sc_law_lines : FnScope ["_law_block_here", "_law_indent", "_law_lines_here", "_law_statement_here", "_law_keyword", "_law_text", "_law_target"] ["_law_block_here", "_law_indent"] (defScope s_law_lines) := ⟨rfl, rfl, rfl, by decide +kernel, rfl, by decide +kernel, by decide +kernel⟩
theorem sc_law_compound : FnScope ["_law_statement_here", "_law_indent", "_law_head", "_law_blocks", "_law_lines_here", "_law_k", "_law_inner"] ["_law_statement_here", "_law_indent"] (defScope s_law_compound) := ⟨rfl, rfl, rfl, by decide +kernel, rfl, by decide +kernel, by decide +kernel⟩
theorem sc_law_script : FnScope ["_law_block_here"] ["_law_block_here"] (defScope s_law_script) := ⟨rfl, rfl, rfl, by decide +kernel, rfl, by decide +kernel, by decide +kernel⟩
theorem sc_law_tokens : FnScope ["_law_text", "_law_tokens_here", "_law_word", "_law_character"] ["_law_text"] (defScope s_law_tokens) := ⟨rfl, rfl, rfl, by decide +kernel, rfl, by decide +kernel, by decide +kernel⟩
theorem sc_law_glues : FnScope ["_law_one", "_law_other", "_law_letters", "_law_digits"] ["_law_one", "_law_other"] (defScope s_law_glues) := ⟨rfl, rfl, rfl, by decide +kernel, rfl, by decide +kernel, by decide +kernel⟩
theorem sc_law_messy : FnScope ["_law_state", "_law_tokens_here", "_law_text", "_law_before", "_law_token", "_law_branch", "_law_gap"] ["_law_state", "_law_tokens_here"] (defScope s_law_messy) := ⟨rfl, rfl, rfl, by decide +kernel, rfl, by decide +kernel, by decide +kernel⟩
theorem sc_law_wrapped : FnScope ["_law_state", "_law_value_here", "_law_form", "_law_text", "_law_level_here"] ["_law_state", "_law_value_here"] (defScope s_law_wrapped) := ⟨rfl, rfl, rfl, by decide +kernel, rfl, by decide +kernel, by decide +kernel⟩
theorem sc_law_wrapped_operand : FnScope ["_law_state", "_law_value_here", "_law_level_here", "_law_text"] ["_law_state", "_law_value_here", "_law_level_here"] (defScope s_law_wrapped_operand) := ⟨rfl, rfl, rfl, by decide +kernel, rfl, by decide +kernel, by decide +kernel⟩
theorem sc_law : FnScope ["_law_script_here", "_law_state", "_law_turn", "_law_block_here", "_law_expected", "_law_text", "_law_value_here"] ["_law_script_here"] (defScope s_law) := ⟨rfl, rfl, rfl, by decide +kernel, rfl, by decide +kernel, by decide +kernel⟩
structure All (K : PySem.W.Frag) (mg : Str → Option Value) : Prop where
  d_end_of_run : DefIn K mg "end_of_run" "end_of_run" s_end_of_run
  d_token_at : DefIn K mg "token_at" "token_at" s_token_at
  d_tokenize : DefIn K mg "tokenize" "tokenize" s_tokenize
  d_parse_script : DefIn K mg "parse_script" "parse_script" s_parse_script
  d_level_of : DefIn K mg "level_of" "level_of" s_level_of
  d_print_operand : DefIn K mg "print_operand" "print_operand" s_print_operand
  d_print_expression : DefIn K mg "print_expression" "print_expression" s_print_expression
  d_print_target : DefIn K mg "print_target" "print_target" s_print_target
  d_print_block : DefIn K mg "print_block" "print_block" s_print_block
  d_print_statement : DefIn K mg "print_statement" "print_statement" s_print_statement
  d_print_lines : DefIn K mg "print_lines" "print_lines" s_print_lines
  d_print_script : DefIn K mg "print_script" "print_script" s_print_script
  d_format_script : DefIn K mg "format_script" "format_script" s_format_script
  d_law_start : DefIn K mg "_law_start" "_law_start" s_law_start
  d_law_drawn : DefIn K mg "_law_drawn" "_law_drawn" s_law_drawn
  d_law_value : DefIn K mg "_law_value" "_law_value" s_law_value
  d_law_statement : DefIn K mg "_law_statement" "_law_statement" s_law_statement
  d_law_block : DefIn K mg "_law_block" "_law_block" s_law_block
  d_law_level : DefIn K mg "_law_level" "_law_level" s_law_level
  d_law_print : DefIn K mg "_law_print" "_law_print" s_law_print
  d_law_lines : DefIn K mg "_law_lines" "_law_lines" s_law_lines
  d_law_compound : DefIn K mg "_law_compound" "_law_compound" s_law_compound
  d_law_script : DefIn K mg "_law_script" "_law_script" s_law_script
  d_law_tokens : DefIn K mg "_law_tokens" "_law_tokens" s_law_tokens
  d_law_glues : DefIn K mg "_law_glues" "_law_glues" s_law_glues
  d_law_messy : DefIn K mg "_law_messy" "_law_messy" s_law_messy
  d_law_wrapped : DefIn K mg "_law_wrapped" "_law_wrapped" s_law_wrapped
  d_law_wrapped_operand : DefIn K mg "_law_wrapped_operand" "_law_wrapped_operand" s_law_wrapped_operand
  d_law : DefIn K mg "law" "law" s_law
  b_len : mg "len" = none
  b_enumerate : mg "enumerate" = none
  b_int : mg "int" = none
  b_tuple : mg "tuple" = none
  b_str : mg "str" = none
  b_isinstance : mg "isinstance" = none
  b_list : mg "list" = none
  b_range : mg "range" = none
  b_bool : mg "bool" = none
  c_LETTERS : ∃ t, mg "LETTERS" = some (.str "abcdefghijklmnopqrstuvwxyz" t)
  c_MAX_LETTERS : ∃ t, mg "MAX_LETTERS" = some (.int 8 t)
  c_DIGITS : ∃ t, mg "DIGITS" = some (.str "0123456789" t)
  c_MAX_DIGITS : ∃ t, mg "MAX_DIGITS" = some (.int 18 t)
  c_SIGNS : ∃ a, mg "SIGNS" = some (.ref a) ∧ ∀ H, SqT K H a [.str "<=", .str ">=", .str "!=", .str "{", .str "}", .str "(", .str ")", .str ";", .str ",", .str "+", .str "-", .str "*", .str "<", .str "=", .str ">"]
  c_WORD : ∃ t, mg "WORD" = some (.str "word" t)
  c_NUMBER : ∃ t, mg "NUMBER" = some (.str "number" t)
  c_SIGN : ∃ t, mg "SIGN" = some (.str "sign" t)
  c_COMMENT : ∃ t, mg "COMMENT" = some (.str "#" t)
  c_SIMPLE : ∃ a, mg "SIMPLE" = some (.ref a) ∧ ∀ H, SqT K H a [.str "arrive", .str "send", .str "leave", .str "print"]
  c_RESERVED : ∃ a, mg "RESERVED" = some (.ref a) ∧ ∀ H, SqT K H a [.str "arrive", .str "send", .str "leave", .str "print", .str "link", .str "port", .str "station", .str "let", .str "repeat", .str "if", .str "else", .str "div", .str "mod", .str "queue", .str "finished", .str "next"]
  c_COMPARISONS : ∃ a, mg "COMPARISONS" = some (.ref a) ∧ ∀ H, SqT K H a [.str "<", .str "<=", .str "=", .str "!=", .str ">=", .str ">"]
  c_SUM_OPERATORS : ∃ a, mg "SUM_OPERATORS" = some (.ref a) ∧ ∀ H, SqT K H a [.str "+", .str "-"]
  c_PRODUCT_OPERATORS : ∃ a, mg "PRODUCT_OPERATORS" = some (.ref a) ∧ ∀ H, SqT K H a [.str "*", .str "div", .str "mod"]
  c_INDENT : ∃ t, mg "INDENT" = some (.str "  " t)
  c_SUM_LEVEL : ∃ t, mg "SUM_LEVEL" = some (.int 1 t)
  c_PRODUCT_LEVEL : ∃ t, mg "PRODUCT_LEVEL" = some (.int 2 t)
  c_FACTOR_LEVEL : ∃ t, mg "FACTOR_LEVEL" = some (.int 3 t)
  k_Token : ∃ C, ClsOk K mg "Token" C ["form", "text", "place"] ∧ MkIn K C "Token.__init__" s_Token___init
  k_Parser : ∃ C, ClsOk K mg "Parser" C ["tokens", "cursor", "line_count"] ∧ MkIn K C "Parser.__init__" s_Parser___init ∧ MetIn K C "fail" "Parser.fail" s_Parser_fail ∧ MetIn K C "peek" "Parser.peek" s_Parser_peek ∧ MetIn K C "sees_form" "Parser.sees_form" s_Parser_sees_form ∧ MetIn K C "accept" "Parser.accept" s_Parser_accept ∧ MetIn K C "expect" "Parser.expect" s_Parser_expect ∧ MetIn K C "take" "Parser.take" s_Parser_take ∧ MetIn K C "take_name" "Parser.take_name" s_Parser_take_name ∧ MetIn K C "parse_script" "Parser.parse_script" s_Parser_parse_script ∧ MetIn K C "parse_block" "Parser.parse_block" s_Parser_parse_block ∧ MetIn K C "parse_statement" "Parser.parse_statement" s_Parser_parse_statement ∧ MetIn K C "parse_link" "Parser.parse_link" s_Parser_parse_link ∧ MetIn K C "parse_if" "Parser.parse_if" s_Parser_parse_if ∧ MetIn K C "parse_sum" "Parser.parse_sum" s_Parser_parse_sum ∧ MetIn K C "parse_product" "Parser.parse_product" s_Parser_parse_product ∧ MetIn K C "parse_factor" "Parser.parse_factor" s_Parser_parse_factor
end Fb
namespace Fb
open PySem PySem.Spec PyProof.Rows L2 PySem.HandSPX
def hdd_end_of_run : He.DefD := ⟨("end_of_run", none), "end_of_run", "end_of_run", defArgs s_end_of_run, defBody s_end_of_run, defScope s_end_of_run, [], []⟩
def hdd_token_at : He.DefD := ⟨("token_at", none), "token_at", "token_at", defArgs s_token_at, defBody s_token_at, defScope s_token_at, [], []⟩
def hdd_tokenize : He.DefD := ⟨("tokenize", none), "tokenize", "tokenize", defArgs s_tokenize, defBody s_tokenize, defScope s_tokenize, [], []⟩
def hdd_parse_script : He.DefD := ⟨("parse_script", none), "parse_script", "parse_script", defArgs s_parse_script, defBody s_parse_script, defScope s_parse_script, [], []⟩
def hdd_level_of : He.DefD := ⟨("level_of", none), "level_of", "level_of", defArgs s_level_of, defBody s_level_of, defScope s_level_of, [], []⟩
def hdd_print_operand : He.DefD := ⟨("print_operand", none), "print_operand", "print_operand", defArgs s_print_operand, defBody s_print_operand, defScope s_print_operand, [], []⟩
def hdd_print_expression : He.DefD := ⟨("print_expression", none), "print_expression", "print_expression", defArgs s_print_expression, defBody s_print_expression, defScope s_print_expression, [], []⟩
def hdd_print_target : He.DefD := ⟨("print_target", none), "print_target", "print_target", defArgs s_print_target, defBody s_print_target, defScope s_print_target, [], []⟩
def hdd_print_block : He.DefD := ⟨("print_block", none), "print_block", "print_block", defArgs s_print_block, defBody s_print_block, defScope s_print_block, [], []⟩
def hdd_print_statement : He.DefD := ⟨("print_statement", none), "print_statement", "print_statement", defArgs s_print_statement, defBody s_print_statement, defScope s_print_statement, [], []⟩
def hdd_print_lines : He.DefD := ⟨("print_lines", none), "print_lines", "print_lines", defArgs s_print_lines, defBody s_print_lines, defScope s_print_lines, [], []⟩
def hdd_print_script : He.DefD := ⟨("print_script", none), "print_script", "print_script", defArgs s_print_script, defBody s_print_script, defScope s_print_script, [], []⟩
def hdd_format_script : He.DefD := ⟨("format_script", none), "format_script", "format_script", defArgs s_format_script, defBody s_format_script, defScope s_format_script, [], []⟩
def hdd_law_start : He.DefD := ⟨("_law_start", none), "_law_start", "_law_start", defArgs s_law_start, defBody s_law_start, defScope s_law_start, [], []⟩
def hdd_law_drawn : He.DefD := ⟨("_law_drawn", none), "_law_drawn", "_law_drawn", defArgs s_law_drawn, defBody s_law_drawn, defScope s_law_drawn, [], []⟩
def hdd_law_value : He.DefD := ⟨("_law_value", none), "_law_value", "_law_value", defArgs s_law_value, defBody s_law_value, defScope s_law_value, [], []⟩
def hdd_law_statement : He.DefD := ⟨("_law_statement", none), "_law_statement", "_law_statement", defArgs s_law_statement, defBody s_law_statement, defScope s_law_statement, [], []⟩
def hdd_law_block : He.DefD := ⟨("_law_block", none), "_law_block", "_law_block", defArgs s_law_block, defBody s_law_block, defScope s_law_block, [], []⟩
def hdd_law_level : He.DefD := ⟨("_law_level", none), "_law_level", "_law_level", defArgs s_law_level, defBody s_law_level, defScope s_law_level, [], []⟩
def hdd_law_print : He.DefD := ⟨("_law_print", none), "_law_print", "_law_print", defArgs s_law_print, defBody s_law_print, defScope s_law_print, [], []⟩
def hdd_law_lines : He.DefD := ⟨("_law_lines", none), "_law_lines", "_law_lines", defArgs s_law_lines, defBody s_law_lines, defScope s_law_lines, [], []⟩
def hdd_law_compound : He.DefD := ⟨("_law_compound", none), "_law_compound", "_law_compound", defArgs s_law_compound, defBody s_law_compound, defScope s_law_compound, [], []⟩
def hdd_law_script : He.DefD := ⟨("_law_script", none), "_law_script", "_law_script", defArgs s_law_script, defBody s_law_script, defScope s_law_script, [], []⟩
def hdd_law_tokens : He.DefD := ⟨("_law_tokens", none), "_law_tokens", "_law_tokens", defArgs s_law_tokens, defBody s_law_tokens, defScope s_law_tokens, [], []⟩
def hdd_law_glues : He.DefD := ⟨("_law_glues", none), "_law_glues", "_law_glues", defArgs s_law_glues, defBody s_law_glues, defScope s_law_glues, [], []⟩
def hdd_law_messy : He.DefD := ⟨("_law_messy", none), "_law_messy", "_law_messy", defArgs s_law_messy, defBody s_law_messy, defScope s_law_messy, [], []⟩
def hdd_law_wrapped : He.DefD := ⟨("_law_wrapped", none), "_law_wrapped", "_law_wrapped", defArgs s_law_wrapped, defBody s_law_wrapped, defScope s_law_wrapped, [], []⟩
def hdd_law_wrapped_operand : He.DefD := ⟨("_law_wrapped_operand", none), "_law_wrapped_operand", "_law_wrapped_operand", defArgs s_law_wrapped_operand, defBody s_law_wrapped_operand, defScope s_law_wrapped_operand, [], []⟩
def hdd_law : He.DefD := ⟨("law", none), "law", "law", defArgs s_law, defBody s_law, defScope s_law, [], []⟩
def hdd_Token___init : He.DefD := ⟨("Token", some "__init__"), "__init__", "Token.__init__", defArgs s_Token___init, defBody s_Token___init, defScope s_Token___init, [], []⟩
def hdd_Parser___init : He.DefD := ⟨("Parser", some "__init__"), "__init__", "Parser.__init__", defArgs s_Parser___init, defBody s_Parser___init, defScope s_Parser___init, [], []⟩
def hdd_Parser_fail : He.DefD := ⟨("Parser", some "fail"), "fail", "Parser.fail", defArgs s_Parser_fail, defBody s_Parser_fail, defScope s_Parser_fail, [], []⟩
def hdd_Parser_peek : He.DefD := ⟨("Parser", some "peek"), "peek", "Parser.peek", defArgs s_Parser_peek, defBody s_Parser_peek, defScope s_Parser_peek, [], []⟩
def hdd_Parser_sees_form : He.DefD := ⟨("Parser", some "sees_form"), "sees_form", "Parser.sees_form", defArgs s_Parser_sees_form, defBody s_Parser_sees_form, defScope s_Parser_sees_form, [], []⟩
def hdd_Parser_accept : He.DefD := ⟨("Parser", some "accept"), "accept", "Parser.accept", defArgs s_Parser_accept, defBody s_Parser_accept, defScope s_Parser_accept, [], []⟩
def hdd_Parser_expect : He.DefD := ⟨("Parser", some "expect"), "expect", "Parser.expect", defArgs s_Parser_expect, defBody s_Parser_expect, defScope s_Parser_expect, [], []⟩
def hdd_Parser_take : He.DefD := ⟨("Parser", some "take"), "take", "Parser.take", defArgs s_Parser_take, defBody s_Parser_take, defScope s_Parser_take, [], []⟩
def hdd_Parser_take_name : He.DefD := ⟨("Parser", some "take_name"), "take_name", "Parser.take_name", defArgs s_Parser_take_name, defBody s_Parser_take_name, defScope s_Parser_take_name, [], []⟩
def hdd_Parser_parse_script : He.DefD := ⟨("Parser", some "parse_script"), "parse_script", "Parser.parse_script", defArgs s_Parser_parse_script, defBody s_Parser_parse_script, defScope s_Parser_parse_script, [], []⟩
def hdd_Parser_parse_block : He.DefD := ⟨("Parser", some "parse_block"), "parse_block", "Parser.parse_block", defArgs s_Parser_parse_block, defBody s_Parser_parse_block, defScope s_Parser_parse_block, [], []⟩
def hdd_Parser_parse_statement : He.DefD := ⟨("Parser", some "parse_statement"), "parse_statement", "Parser.parse_statement", defArgs s_Parser_parse_statement, defBody s_Parser_parse_statement, defScope s_Parser_parse_statement, [], []⟩
def hdd_Parser_parse_link : He.DefD := ⟨("Parser", some "parse_link"), "parse_link", "Parser.parse_link", defArgs s_Parser_parse_link, defBody s_Parser_parse_link, defScope s_Parser_parse_link, [], []⟩
def hdd_Parser_parse_if : He.DefD := ⟨("Parser", some "parse_if"), "parse_if", "Parser.parse_if", defArgs s_Parser_parse_if, defBody s_Parser_parse_if, defScope s_Parser_parse_if, [], []⟩
def hdd_Parser_parse_sum : He.DefD := ⟨("Parser", some "parse_sum"), "parse_sum", "Parser.parse_sum", defArgs s_Parser_parse_sum, defBody s_Parser_parse_sum, defScope s_Parser_parse_sum, [], []⟩
def hdd_Parser_parse_product : He.DefD := ⟨("Parser", some "parse_product"), "parse_product", "Parser.parse_product", defArgs s_Parser_parse_product, defBody s_Parser_parse_product, defScope s_Parser_parse_product, [], []⟩
def hdd_Parser_parse_factor : He.DefD := ⟨("Parser", some "parse_factor"), "parse_factor", "Parser.parse_factor", defArgs s_Parser_parse_factor, defBody s_Parser_parse_factor, defScope s_Parser_parse_factor, [], []⟩
def hdd_ScriptSyntaxError___init : He.DefD := ⟨("ScriptSyntaxError", some "__init__"), "__init__", "ScriptSyntaxError.__init__", defArgs s_ScriptSyntaxError___init, defBody s_ScriptSyntaxError___init, defScope s_ScriptSyntaxError___init, [], []⟩
def hd_e0 (K : PySem.W.Frag) : Bool := hdTup K "SIGNS" ["<=", ">=", "!=", "{", "}", "(", ")", ";", ",", "+", "-", "*", "<", "=", ">"]
def hd_e1 (K : PySem.W.Frag) : Bool := hdTup K "SIMPLE" ["arrive", "send", "leave", "print"]
def hd_e2 (K : PySem.W.Frag) : Bool := hdTup K "RESERVED" ["arrive", "send", "leave", "print", "link", "port", "station", "let", "repeat", "if", "else", "div", "mod", "queue", "finished", "next"]
def hd_e3 (K : PySem.W.Frag) : Bool := hdTup K "COMPARISONS" ["<", "<=", "=", "!=", ">=", ">"]
def hd_e4 (K : PySem.W.Frag) : Bool := hdTup K "SUM_OPERATORS" ["+", "-"]
def hd_e5 (K : PySem.W.Frag) : Bool := hdTup K "PRODUCT_OPERATORS" ["*", "div", "mod"]
def hd_e6 (K : PySem.W.Frag) : Bool := errOwn K []
def hd_e7 (K : PySem.W.Frag) : Bool := hdInit K "ScriptSyntaxError" ["row", "column"]
def hd_e8 (K : PySem.W.Frag) : Bool := hdFe K
def hd_es : List (PySem.W.Frag → Bool) := [hd_e0, hd_e1, hd_e2, hd_e3, hd_e4, hd_e5, hd_e6, hd_e7, hd_e8]
def hd_fa : List He.Fa := [.glo "end_of_run", .glo "token_at", .glo "tokenize", .glo "parse_script", .glo "level_of", .glo "print_operand", .glo "print_expression", .glo "print_target", .glo "print_block", .glo "print_statement", .glo "print_lines", .glo "print_script", .glo "format_script", .glo "_law_start", .glo "_law_drawn", .glo "_law_value", .glo "_law_statement", .glo "_law_block", .glo "_law_level", .glo "_law_print", .glo "_law_lines", .glo "_law_compound", .glo "_law_script", .glo "_law_tokens", .glo "_law_glues", .glo "_law_messy", .glo "_law_wrapped", .glo "_law_wrapped_operand", .glo "law", .free "len", .free "enumerate", .free "int", .free "tuple", .free "str", .free "isinstance", .free "list", .free "range", .free "bool", .int "MAX_LETTERS" 8, .int "MAX_DIGITS" 18, .int "SUM_LEVEL" 1, .int "PRODUCT_LEVEL" 2, .int "FACTOR_LEVEL" 3, .str "LETTERS" "abcdefghijklmnopqrstuvwxyz", .str "DIGITS" "0123456789", .str "WORD" "word", .str "NUMBER" "number", .str "SIGN" "sign", .str "COMMENT" "#", .str "INDENT" "  ", .glo "SIGNS", .glo "SIMPLE", .glo "RESERVED", .glo "COMPARISONS", .glo "SUM_OPERATORS", .glo "PRODUCT_OPERATORS", .glo "Token", .cls "Token", .noat "Token" "form", .noat "Token" "text", .noat "Token" "place", .mkr "Token", .glo "Parser", .cls "Parser", .noat "Parser" "tokens", .noat "Parser" "cursor", .noat "Parser" "line_count", .mkr "Parser", .meth "Parser" "fail", .meth "Parser" "peek", .meth "Parser" "sees_form", .meth "Parser" "accept", .meth "Parser" "expect", .meth "Parser" "take", .meth "Parser" "take_name", .meth "Parser" "parse_script", .meth "Parser" "parse_block", .meth "Parser" "parse_statement", .meth "Parser" "parse_link", .meth "Parser" "parse_if", .meth "Parser" "parse_sum", .meth "Parser" "parse_product", .meth "Parser" "parse_factor", .glo "FerryError", .glo "ScriptSyntaxError"]
def hd_p0 : Prt := ⟨hd_fa, [], [], [], fun K => hd_es.all fun f => f K⟩
def hd_fn0 : List He.DefD := [hdd_end_of_run, hdd_token_at, hdd_tokenize, hdd_parse_script, hdd_level_of, hdd_print_operand, hdd_print_expression, hdd_print_target, hdd_print_block, hdd_print_statement, hdd_print_lines, hdd_print_script, hdd_format_script, hdd_law_start, hdd_law_drawn, hdd_law_value, hdd_law_statement, hdd_law_block, hdd_law_level, hdd_law_print, hdd_law_lines, hdd_law_compound, hdd_law_script, hdd_law_tokens]
def hd_p1 : Prt := ⟨[], hd_fn0, [], [], fun _ => true⟩
def hd_fn1 : List He.DefD := [hdd_law_glues, hdd_law_messy, hdd_law_wrapped, hdd_law_wrapped_operand, hdd_law, hdd_Token___init, hdd_Parser___init, hdd_Parser_fail, hdd_Parser_peek, hdd_Parser_sees_form, hdd_Parser_accept, hdd_Parser_expect, hdd_Parser_take, hdd_Parser_take_name, hdd_Parser_parse_script, hdd_Parser_parse_block, hdd_Parser_parse_statement, hdd_Parser_parse_link, hdd_Parser_parse_if, hdd_Parser_parse_sum, hdd_Parser_parse_product, hdd_Parser_parse_factor, hdd_ScriptSyntaxError___init]
def hd_p2 : Prt := ⟨[], hd_fn1, [], [], fun _ => true⟩
def hd_names0 : List PySem.Str := ["__name__", "FerryError", "ScriptSyntaxError", "LETTERS", "MAX_LETTERS", "DIGITS", "MAX_DIGITS", "SIGNS", "WORD", "NUMBER", "SIGN", "COMMENT", "Token", "end_of_run", "token_at", "tokenize"]
def hd_names1 : List PySem.Str := ["SIMPLE", "RESERVED", "COMPARISONS", "SUM_OPERATORS", "PRODUCT_OPERATORS", "Parser", "parse_script", "INDENT", "SUM_LEVEL", "PRODUCT_LEVEL", "FACTOR_LEVEL", "level_of", "print_operand", "print_expression", "print_target", "print_block"]
def hd_names2 : List PySem.Str := ["print_statement", "print_lines", "print_script", "format_script", "_law_start", "_law_drawn", "_law_same", "_law_value", "_law_statement", "_law_block", "_law_level", "_law_print", "_law_lines", "_law_compound", "_law_script", "_law_tokens"]
def hd_names3 : List PySem.Str := ["_law_glues", "_law_messy", "_law_wrapped", "_law_wrapped_operand"]
def hd_names : List PySem.Str := hd_names0 ++ hd_names1 ++ hd_names2 ++ hd_names3
abbrev hdR : PySem.W.OpenRow := PySem.W.OpenLaw.row PySem.Challenge.rw_fullboats_k45_canonical_form
def hd_as : List Addr := List.range 1000
abbrev hdq : Program := PySem.W.view hdR.prog [56]
set_option maxHeartbeats 0 in
theorem hd_run0 (w : World) : RunP hdR hdq hd_as hd_p0 9000 hd_names w := by
  intro os
  kernel_rfl
set_option maxHeartbeats 0 in
theorem hd_run1 (w : World) : RunP hdR hdq hd_as hd_p1 9000 hd_names w := by
  intro os
  kernel_rfl
set_option maxHeartbeats 0 in
theorem hd_run2 (w : World) : RunP hdR hdq hd_as hd_p2 9000 hd_names w := by
  intro os
  kernel_rfl
def hd_ps : List Prt := [hd_p0] ++ [hd_p1] ++ [hd_p2]
theorem hd_run (w : World) : HandSHeadRun.RunEq hdR hdq (hookY hd_as hd_ps) (obY hd_as hd_ps) 9000 hd_names w := ((((hd_run0 w).l).app (hd_run1 w).l).app (hd_run2 w).l).run
end Fb
open PySem PySem.W PySem.Calls PyProof.Rows
set_option maxRecDepth 100000 in
set_option maxHeartbeats 0 in
theorem Fb.hd_fin (F : ∀ (w : World) (mg : PySem.Str → Option Value) (fa : Addr) (h : Heap), (Fb.hookY Fb.hd_as Fb.hd_ps).says w h → h.Ns mainGlobals mg → mg ("law" : PySem.Str) = some (.ref fa) → ∃ K : PySem.W.Frag, K.In h ∧ LamX.LawAtS PySem.Challenge.rw_fullboats_k45_canonical_form w K (L2N.CX PySem.Challenge.rw_fullboats_k45_canonical_form.prog w) 75 63 "_law_script_here" mg fa h) : PySem.Challenge.rw_fullboats_k45_canonical_form.Holds := by
  w_on; o_law
  refine HandSHeadRun.head_any (r := OpenLaw.row PySem.Challenge.rw_fullboats_k45_canonical_form) (q := Fb.hdq) (H := Fb.hookY Fb.hd_as Fb.hd_ps) (ob := Fb.obY Fb.hd_as Fb.hd_ps) (M := 9000) (loose := Fb.hd_names) (d := HandSHeadRun.topDef (OpenLaw.row PySem.Challenge.rw_fullboats_k45_canonical_form).prog 56) (kwd := []) (Fb.obY_eq _ _)
    (by kernel_rfl) (fun s => by kernel_rfl) Fb.hd_run (by kernel_rfl) (by kernel_rfl) (by kernel_rfl) (by rfl) (by first | assumption | decide +kernel) (by decide +kernel) ⟨rfl, rfl, rfl, rfl, rfl, by decide +kernel⟩ ?hw ?hc
  case hw => w_witness2
  case hc =>
    refine LamX.walk_ofTsE (l := PySem.Challenge.rw_fullboats_k45_canonical_form) (n := 63) (k := 75) (x := "_law_script_here") (CX := fun w => L2N.CX PySem.Challenge.rw_fullboats_k45_canonical_form.prog w) rfl (by decide) (by kernel_rfl) ⟨rfl, by decide, by decide⟩ ?F ?e
    case e =>
      intro w H s e s' h
      obtain ⟨_, _, _, _, _, _, _, _, _, _, _, _, z⟩ := h
      exact z.elim
    intro w mg fa h Y G hmg0
    have hmg : mg ("law" : PySem.Str) = some (.ref fa) := by
      have e : (HandSHeadRun.topDef (OpenLaw.row PySem.Challenge.rw_fullboats_k45_canonical_form).prog 56).name = ("law" : PySem.Str) := by kernel_rfl
      rw [← e]
      exact hmg0
    exact F w mg fa h Y G hmg
namespace Fb
open PySem PySem.Spec PyProof.Rows L2
structure FeB (K : PySem.W.Frag) (mg : Str → Option Value) (D : Addr) : Prop where
  mg : mg "FerryError" = some (.ref D)
  sp : PySem.W.specialIn K (.ref D) "__getattribute__" = some (some (.builtin "type.__getattribute__"))
  rd : PySem.W.readsIn K D (.type "type") = true
  fc : PySem.W.findCls K (.ref D) (.type "type") "__init__" = some (.val (.builtin "ValueError.__init__"))
end Fb
namespace Fb
open PySem PySem.Spec PyProof.Rows L2 PySem.HandSPX
def sseD (row col : Nat) : HO := .xd [("column", .int (col : Nat)), ("row", .int (row : Nat))]
def spSse (C : Addr) : Sp := fun vs H Q _ => ∃ (a : Addr) (x y : V), vs = [.ref a, x, y] ∧ H a = some (exo a C none) ∧ ∀ d, H d = none → d ≠ a → Q .non (upd (upd (upd H d (exd d [("row", x)])) a (exo a C (some d))) d (exd d [("column", y), ("row", x)]))
theorem sse_sp {C : Addr} {x y : V} {H1 : Hp} {Q : XK} (h : ∀ d, H1 d = none → Q (.ref C) (some d) (upd H1 d (.xd [("column", y), ("row", x)]))) : [x, y].length = 2 ∧ ∀ a, H1 a = none → spSse C ([.ref a] ++ [x, y]) (upd H1 a (exo a C none))
    (fun v H2 => v = .non ∧ ∃ (d : Addr) (fs : List (Str × V)), H2 a = some (exo a C (some d)) ∧ H2 d = some (exd d fs) ∧ H1 d = none ∧ Q (.ref C) (some d) (upd (del H2 a) d (.xd fs))) (fun _ _ _ => False) := by
  refine ⟨rfl, fun a na => ⟨a, x, y, rfl, upd_same, fun d nd nda => ⟨rfl, d, _, ?_, upd_same, ?_, ?_⟩⟩⟩
  · rw [upd_ne (Ne.symm nda), upd_same]
  · rw [upd_ne nda] at nd
    exact nd
  · have nd1 : H1 d = none := by
      rw [upd_ne nda] at nd
      exact nd
    have e : upd (del (upd (upd (upd (upd H1 a (exo a C none)) d (exd d [("row", x)])) a (exo a C (some d))) d (exd d [("column", y), ("row", x)])) a) d (.xd [("column", y), ("row", x)]) = upd H1 d (.xd [("column", y), ("row", x)]) := by
      funext b
      by_cases e1 : b = d
      · rw [e1, upd_same, upd_same]
      · rw [upd_ne e1, upd_ne e1]
        by_cases e2 : b = a
        · rw [e2, del_same, na]
        · rw [del_ne e2, upd_ne e1, upd_ne e2, upd_ne e1, upd_ne e2]
    rw [e]
    exact h d nd1
structure KxScriptSyntaxError (K : PySem.W.Frag) (mg : Str → Option Value) (C : Addr) : Prop where
  mgC : mg "ScriptSyntaxError" = some (.ref C)
  ex : ∃ f D fd, Fun K "__init__" "ScriptSyntaxError.__init__" s_ScriptSyntaxError___init f fd ∧ OexI K C f ["row", "column"] ∧ FeB K mg D
theorem KxScriptSyntaxError.mk' {K : PySem.W.Frag} {mg : Str → Option Value} {C f D : Addr} {oc : Value} {od an : Option Addr} {osl : Array (Option Value)} {kV doc pm cdv ct : Value} (mgC : mg "ScriptSyntaxError" = some (.ref C)) (a : PySem.W.findIn K (.ref C) "__init__" = some (some (.ref f)))
    (l : K.lookup f = some ⟨oc, od, .func (PySem.W.fnOf "__init__" "ScriptSyntaxError.__init__" (defArgs s_ScriptSyntaxError___init) (defBody s_ScriptSyntaxError___init) (defScope s_ScriptSyntaxError___init) .none kV doc pm an cdv ct), osl⟩)
    (c : PySem.W.codeIn K cdv "ScriptSyntaxError.__init__" = true) (k : PySem.W.keepIn K (.ref f) = true) (o : oexAll K C f ["row", "column"] = true) (m : mg "FerryError" = some (.ref D))
    (s : PySem.W.specialIn K (.ref D) "__getattribute__" = some (some (.builtin "type.__getattribute__"))) (r : PySem.W.readsIn K D (.type "type") = true) (fc : PySem.W.findCls K (.ref D) (.type "type") "__init__" = some (.val (.builtin "ValueError.__init__"))) : KxScriptSyntaxError K mg C :=
  ⟨mgC, f, D, _, fun_mk l c k, oexAll_ok o, ⟨m, s, r, fc⟩⟩
theorem sck_ScriptSyntaxError : FnScope ["self", "row", "column"] ["self", "row", "column"] (defScope s_ScriptSyntaxError___init) := ⟨rfl, rfl, rfl, by decide +kernel, rfl, by decide +kernel, by decide +kernel⟩
theorem ok_kx_ScriptSyntaxError {P : Program} {w : World} {K : PySem.W.Frag} {mg : Str → Option Value} {base : Heap} {C D f : Addr} {fd : FuncData} (F : Fun K "__init__" "ScriptSyntaxError.__init__" s_ScriptSyntaxError___init f fd) (O : OexI K C f ["row", "column"]) (B : FeB K mg D) : FnOk P w K mg base (L2N.CX P w) 1 f fd ["self", "row", "column"] (spSse C) := by
  refine F.okN sck_ScriptSyntaxError (fun vs H Q E h => ?_) (fun cdv A' outer s H0 vs Q E hr h => ?_)
  · obtain ⟨a, x, y, rfl, _⟩ := h
    rfl
  · obtain ⟨a, x, y, rfl, ha, k⟩ := h
    have key : ∃ t, PSs (cxOf (L2N.CX P w) P w K mg base ["self", "row", "column"] "ScriptSyntaxError.__init__" (defScope s_ScriptSyntaxError___init) f cdv A' outer s H0 E).nox (defBody s_ScriptSyntaxError___init) t ∧ t { nx := fun _ H' => Q .non H', rt := Q } (start ["self", "row", "column"] [.ref a, x, y]) H0 := by
      refine ⟨_, (pss_cons (ps_expr (pe_feinit (D := D) rfl B.mg B.sp B.rd B.fc (pa_cons (pv 0) (pa_cons pe_str pa_nil)))) (pss_cons (ps_ost (pv 0) (pv 1)) (pss_one (ps_ost (pv 0) (pv 2))))), ?_⟩
      walk_at "begin"
      unfold tVeI
      walk_at "go"
      refine ⟨a, C, [.str "invalid syntax"], rfl, by decide, O.oex, ha, ?_⟩
      walk_at "go"
      unfold tOst
      walk_at "go"
      refine ⟨a, C, rfl, O.oex, O.no _ (by simp), .inl ⟨ha, fun d nd na => ?_⟩⟩
      walk_at "go"
      refine ⟨a, C, rfl, O.oex, O.no _ (by simp), .inr ⟨d, [("row", x)], upd_same, ?_, by simp, ?_⟩⟩
      · rw [upd_ne na]
        exact upd_same
      · walk_at "go"
        exact k d nd na
    obtain ⟨t, p, q⟩ := key
    exact ⟨t, p.nox, q⟩
theorem ps_sse {X : Cx} {C : Addr} {W : WX} {tk : L2.TA} {kws : List Keyword} {p pos pos' : Pos} (B : KxScriptSyntaxError X.K X.mg C) (hr : Room 2 X.A) (hc : X.calm = true) (tks : Takes X W) (hg : Gl X "ScriptSyntaxError") (hkw : PK X kws tk)
    (hall : (backToKw pos (keywordEach kws X.env)).all (·.1.isSome) = true := by rfl) (hks : (backToKw pos (keywordEach kws X.env)).filterMap (·.1) = (["row", "column"] : List Str) := by rfl)
    (hpl : ((backTo pos (starEach [] X.env)).any (·.1) || (backToKw pos (keywordEach kws X.env)).any (·.1.isNone)) = false := by rfl) :
    PS X (.Raise (some (.Call (.Name "ScriptSyntaxError" p) [] kws pos)) none pos') (fun _ σ H => tMkOK C (spSse C) (fun vs zs => vs ++ zs) 2 tk σ H fun cls d H' => W cls d σ H') := by
  obtain ⟨f, D, fd, F, O, FB⟩ := B.ex
  have hb : KBn X.K fd ["self", "row", "column"] 1 ["row", "column"] (fun us ws => us ++ ws) (fun vs zs => vs ++ zs) := kbn_req F (fun us ws => us ++ ws) (fun r1 r2 => Vals.append r1 r2) (fun kV doc pm an cdv ct us ws l1 l2 => by
    match us, ws, l1, l2 with
    | [u], [w1, w2], _, _ => rfl)
  exact ps_raise hc tks (pmk_oexK O.oex O.ini O.fn (ok_kx_ScriptSyntaxError F O FB) hr hb passL hg B.mgC hkw hall hks (by decide) hpl)
end Fb
namespace Fb
open PySem PySem.Spec PyProof.Rows L2 PySem.HandSPX SX
inductive Op | add | sub | mul | div | mod
  deriving DecidableEq
inductive Cp | lt | le | eq | ne | ge | gt
  deriving DecidableEq
inductive Kw | arrive | send | leave | print
  deriving DecidableEq
inductive Ex
  | num (n : Nat)
  | name (s : Str)
  | neg (e : Ex)
  | bin (o : Op) (l r : Ex)
  | queue (e : Ex)
  | fin (p : Str)
  | next
inductive Tg
  | port (p : Str)
  | station (e : Ex)
inductive Sm
  | simple (k : Kw) (e : Ex)
  | link (a b : Ex) (t : Tg)
  | asg (x : Str) (e : Ex)
  | rep (e : Ex) (b : List Sm)
  | ite (l : Ex) (c : Cp) (r : Ex) (a b : List Sm)
def Op.s : Op → Str
  | .add => "+"
  | .sub => "-"
  | .mul => "*"
  | .div => "div"
  | .mod => "mod"
def Op.lv : Op → Nat
  | .add => 1
  | .sub => 1
  | .mul => 2
  | .div => 2
  | .mod => 2
def Cp.s : Cp → Str
  | .lt => "<"
  | .le => "<="
  | .eq => "="
  | .ne => "!="
  | .ge => ">="
  | .gt => ">"
def Kw.s : Kw → Str
  | .arrive => "arrive"
  | .send => "send"
  | .leave => "leave"
  | .print => "print"
def Ex.lv : Ex → Nat
  | .bin o _ _ => o.lv
  | _ => 3
def exD : Ex → PyData
  | .num n => .tuple [.str "number", .int (n : Nat)]
  | .name s => .tuple [.str "name", .str s]
  | .neg e => .tuple [.str "negative", exD e]
  | .bin o l r => .tuple [.str "binary", .str o.s, exD l, exD r]
  | .queue e => .tuple [.str "queue", exD e]
  | .fin p => .tuple [.str "finished", .str p]
  | .next => .tuple [.str "next"]
def tgD : Tg → PyData
  | .port p => .tuple [.str "port", .str p]
  | .station e => .tuple [.str "station", exD e]
mutual
def smD : Sm → PyData
  | .simple k e => .tuple [.str k.s, exD e]
  | .link a b t => .tuple [.str "link", exD a, exD b, tgD t]
  | .asg x e => .tuple [.str "let", .str x, exD e]
  | .rep e b => .tuple [.str "repeat", exD e, .tuple (smsD b)]
  | .ite l c r a b => .tuple [.str "if", exD l, .str c.s, exD r, .tuple (smsD a), .tuple (smsD b)]
def smsD : List Sm → List PyData
  | [] => []
  | s :: b => smD s :: smsD b
end
theorem smsD_map : ∀ b : List Sm, smsD b = b.map smD
  | [] => by simp [smsD]
  | s :: b => by rw [smsD, smsD_map b, List.map_cons]
abbrev blkD (b : List Sm) : PyData := .tuple (smsD b)
def Cp.ofS (t : Str) : Option Cp := if t = "<" then some .lt else if t = "<=" then some .le else if t = "=" then some .eq else if t = "!=" then some .ne else if t = ">=" then some .ge else if t = ">" then some .gt else none
def Kw.ofS (t : Str) : Option Kw := if t = "arrive" then some .arrive else if t = "send" then some .send else if t = "leave" then some .leave else if t = "print" then some .print else none
def sumOp (t : Str) : Option Op := if t = "+" then some .add else if t = "-" then some .sub else none
def proOp (t : Str) : Option Op := if t = "*" then some .mul else if t = "div" then some .div else if t = "mod" then some .mod else none
def reservedL : List Str := ["arrive", "send", "leave", "print", "link", "port", "station", "let", "repeat", "if", "else", "div", "mod", "queue", "finished", "next"]
abbrev cs (z : Str) : List Nat := z.cps.toList
inductive Fm | word | number | sign
  deriving DecidableEq
def Fm.s : Fm → Str
  | .word => "word"
  | .number => "number"
  | .sign => "sign"
def digN (c : Nat) : Bool := decide (48 ≤ c) && decide (c ≤ 57)
def letN (c : Nat) : Bool := decide (97 ≤ c) && decide (c ≤ 122)
def fmOf (t : Str) : Fm := match cs t with
  | [] => .sign
  | c :: _ => if letN c then .word else if digN c then .number else .sign
def parT (b : Bool) (t : List Str) : List Str := if b then "(" :: (t ++ ([")"] : List Str)) else t
def tkE : Ex → List Str
  | .num n => [S (TL.numL n)]
  | .name s => [s]
  | .neg e => "-" :: parT (decide (e.lv < 3)) (tkE e)
  | .bin o l r => parT (decide (l.lv < o.lv)) (tkE l) ++ o.s :: parT (decide (r.lv < o.lv + 1)) (tkE r)
  | .queue e => "queue" :: "(" :: (tkE e ++ ([")"] : List Str))
  | .fin p => ["finished", "(", p, ")"]
  | .next => ["next"]
def tkO (e : Ex) (l : Nat) : List Str := parT (decide (e.lv < l)) (tkE e)
def tkT : Tg → List Str
  | .port p => ["port", p]
  | .station e => "station" :: tkE e
mutual
def tkS : Sm → List Str
  | .simple k e => k.s :: (tkE e ++ ([";"] : List Str))
  | .link a b t => ("link" : Str) :: (tkE a ++ ("," : Str) :: (tkE b ++ ("," : Str) :: (tkT t ++ ([";"] : List Str))))
  | .asg x e => ("let" : Str) :: x :: ("=" : Str) :: (tkE e ++ ([";"] : List Str))
  | .rep e b => ("repeat" : Str) :: (tkE e ++ ("{" : Str) :: (tkB b ++ (["}"] : List Str)))
  | .ite l c r a b => ("if" : Str) :: (tkE l ++ c.s :: (tkE r ++ ("{" : Str) :: (tkB a ++ ("}" : Str) :: (if b.isEmpty then [] else ("else" : Str) :: ("{" : Str) :: (tkB b ++ (["}"] : List Str))))))
def tkB : List Sm → List Str
  | [] => []
  | s :: b => tkS s ++ tkB b
end
inductive Rs (α : Type)
  | no
  | err (r : List Str)
  | ok (a : α) (r : List Str)
def Rs.bind {α β : Type} : Rs α → (α → List Str → Rs β) → Rs β
  | .no, _ => .no
  | .err r, _ => .err r
  | .ok a r, f => f a r
@[simp] theorem Rs.bind_ok {α β : Type} {a : α} {r : List Str} {f : α → List Str → Rs β} : (Rs.ok a r).bind f = f a r := rfl
@[simp] theorem Rs.bind_err {α β : Type} {r : List Str} {f : α → List Str → Rs β} : (Rs.err r : Rs α).bind f = .err r := rfl
@[simp] theorem Rs.bind_no {α β : Type} {f : α → List Str → Rs β} : (Rs.no : Rs α).bind f = .no := rfl
def xp (x : Str) : List Str → Rs Unit
  | [] => .err []
  | t :: r => if t = x then .ok () r else .err (t :: r)
def xpF (f : Fm) : List Str → Rs Str
  | [] => .err []
  | t :: r => if fmOf t = f then .ok t r else .err (t :: r)
def pName (ts : List Str) : Rs Str := match ts with
  | [] => .err []
  | t :: r => if t ∈ reservedL then .err (t :: r) else if fmOf t = .word then .ok t r else .err (t :: r)
def proLp (F : List Str → Rs Ex) : Nat → Ex → List Str → Rs Ex
  | 0, _, _ => .no
  | n + 1, e, ts => match ts with
    | [] => .ok e []
    | t :: r => match proOp t with
      | none => .ok e (t :: r)
      | some o => (F r).bind fun e2 r2 => proLp F n (.bin o e e2) r2
def proP (F : List Str → Rs Ex) (ts : List Str) : Rs Ex := (F ts).bind fun e r => proLp F (r.length + 1) e r
def sumLp (F : List Str → Rs Ex) : Nat → Ex → List Str → Rs Ex
  | 0, _, _ => .no
  | n + 1, e, ts => match ts with
    | [] => .ok e []
    | t :: r => match sumOp t with
      | none => .ok e (t :: r)
      | some o => (proP F r).bind fun e2 r2 => sumLp F n (.bin o e e2) r2
def sumP (F : List Str → Rs Ex) (ts : List Str) : Rs Ex := (proP F ts).bind fun e r => sumLp F (r.length + 1) e r
def facP (F : List Str → Rs Ex) (ts : List Str) : Rs Ex := match ts with
  | [] => .err []
  | t :: r =>
    if fmOf t = .number then .ok (.num (NumText.digitsVal (cs t))) r
    else if t = "-" then (F r).bind fun e r => .ok (.neg e) r
    else if t = "next" then .ok .next r
    else if t = "(" then (sumP F r).bind fun e r => (xp ")" r).bind fun _ r => .ok e r
    else if t = "queue" then (xp "(" r).bind fun _ r => (sumP F r).bind fun e r => (xp ")" r).bind fun _ r => .ok (.queue e) r
    else if t = "finished" then (xp "(" r).bind fun _ r => (xpF .word r).bind fun p r => (xp ")" r).bind fun _ r => .ok (.fin p) r
    else (pName (t :: r)).bind fun s r => .ok (.name s) r
def pFac : Nat → List Str → Rs Ex
  | 0, _ => .no
  | d + 1, ts => facP (pFac d) ts
def pSum (d : Nat) : List Str → Rs Ex := sumP (pFac d)
def blkLp (F : List Str → Rs Sm) : Nat → List Sm → List Str → Rs (List Sm)
  | 0, _, _ => .no
  | n + 1, b, ts => match ts with
    | [] => (F []).bind fun s r => blkLp F n (b ++ [s]) r
    | t :: r => if t = "}" then .ok b r else (F (t :: r)).bind fun s r => blkLp F n (b ++ [s]) r
def blkP (F : List Str → Rs Sm) (ts : List Str) : Rs (List Sm) := (xp "{" ts).bind fun _ r => blkLp F (r.length + 1) [] r
def tgtP (X : List Str → Rs Ex) (ts : List Str) : Rs Tg := match ts with
  | [] => .err []
  | t :: r => if t = "port" then (xpF .word r).bind fun p r => .ok (.port p) r else if t = "station" then (X r).bind fun e r => .ok (.station e) r else .err (t :: r)
def linkP (X : List Str → Rs Ex) (ts : List Str) : Rs Sm := (X ts).bind fun a r => (xp "," r).bind fun _ r => (X r).bind fun b r => (xp "," r).bind fun _ r => (tgtP X r).bind fun t r => (xp ";" r).bind fun _ r => .ok (.link a b t) r
def cmpP : List Str → Rs Cp
  | [] => .err []
  | t :: r => match Cp.ofS t with
    | none => .err (t :: r)
    | some c => .ok c r
def elseP (B : List Str → Rs (List Sm)) (ts : List Str) : Rs (List Sm) := match ts with
  | [] => .ok [] []
  | t :: r => if t = "else" then B r else .ok [] (t :: r)
def ifP (B : List Str → Rs (List Sm)) (X : List Str → Rs Ex) (ts : List Str) : Rs Sm := (X ts).bind fun l r => (cmpP r).bind fun c r => (X r).bind fun e r => (B r).bind fun a r => (elseP B r).bind fun b r => .ok (.ite l c e a b) r
def stmP (B : List Str → Rs (List Sm)) (X : List Str → Rs Ex) (ts : List Str) : Rs Sm := match ts with
  | [] => .err []
  | t :: r => match Kw.ofS t with
    | some k => (X r).bind fun e r => (xp ";" r).bind fun _ r => .ok (.simple k e) r
    | none =>
      if t = "link" then linkP X r
      else if t = "let" then (pName r).bind fun x r => (xp "=" r).bind fun _ r => (X r).bind fun e r => (xp ";" r).bind fun _ r => .ok (.asg x e) r
      else if t = "repeat" then (X r).bind fun e r => (B r).bind fun b r => .ok (.rep e b) r
      else if t = "if" then ifP B X r
      else .err (t :: r)
def pStm (D : Nat) : Nat → List Str → Rs Sm
  | 0, _ => .no
  | d + 1, ts => stmP (blkP (pStm D d)) (pSum D) ts
def scrLp (F : List Str → Rs Sm) : Nat → List Sm → List Str → Rs (List Sm)
  | 0, _, _ => .no
  | n + 1, b, ts => match ts with
    | [] => .ok b []
    | t :: r => (F (t :: r)).bind fun s r => scrLp F n (b ++ [s]) r
def pScr (D d : Nat) (ts : List Str) : Rs (List Sm) := scrLp (pStm D d) (ts.length + 1) [] ts
end Fb
namespace Fb
open PySem PySem.Spec PyProof.Rows L2 PySem.HandSPX SX
def Shr {α : Type} (F : List Str → Rs α) : Prop := ∀ ts a r, F ts = .ok a r → r.length < ts.length
theorem xp_len {x : Str} {ts r : List Str} {u : Unit} (h : xp x ts = .ok u r) : r.length < ts.length := by
  unfold xp at h
  split at h
  · cases h
  · split at h
    · cases h; simp
    · cases h
theorem xpF_len {f : Fm} {ts r : List Str} {z : Str} (h : xpF f ts = .ok z r) : r.length < ts.length := by
  unfold xpF at h
  split at h
  · cases h
  · split at h
    · cases h; simp
    · cases h
theorem pName_len {ts r : List Str} {z : Str} (h : pName ts = .ok z r) : r.length < ts.length := by
  unfold pName at h
  split at h
  · cases h
  · split at h
    · cases h
    · split at h
      · cases h; simp
      · cases h
theorem bind_inv {α β : Type} {x : Rs α} {f : α → List Str → Rs β} {b : β} {r : List Str} (h : x.bind f = .ok b r) : ∃ a r1, x = .ok a r1 ∧ f a r1 = .ok b r := by
  cases x with
  | no => cases h
  | err _ => cases h
  | ok a r1 => exact ⟨a, r1, rfl, h⟩
theorem proLp_len {F : List Str → Rs Ex} (hF : Shr F) : ∀ n e ts a r, proLp F n e ts = .ok a r → r.length ≤ ts.length := by
  intro n
  induction n with
  | zero => intro e ts a r h; cases h
  | succ n ih =>
    intro e ts a r h
    unfold proLp at h
    split at h
    · cases h; simp
    · split at h
      · cases h; simp
      · obtain ⟨e2, r2, h1, h2⟩ := bind_inv h
        have := hF _ _ _ h1
        have := ih _ _ _ _ h2
        simp only [List.length_cons]
        omega
theorem proP_shr {F : List Str → Rs Ex} (hF : Shr F) : Shr (proP F) := fun ts a r h => by
  obtain ⟨e, r1, h1, h2⟩ := bind_inv h
  have := hF _ _ _ h1
  have := proLp_len hF _ _ _ _ _ h2
  omega
theorem sumLp_len {F : List Str → Rs Ex} (hF : Shr F) : ∀ n e ts a r, sumLp F n e ts = .ok a r → r.length ≤ ts.length := by
  intro n
  induction n with
  | zero => intro e ts a r h; cases h
  | succ n ih =>
    intro e ts a r h
    unfold sumLp at h
    split at h
    · cases h; simp
    · split at h
      · cases h; simp
      · obtain ⟨e2, r2, h1, h2⟩ := bind_inv h
        have := proP_shr hF _ _ _ h1
        have := ih _ _ _ _ h2
        simp only [List.length_cons]
        omega
theorem sumP_shr {F : List Str → Rs Ex} (hF : Shr F) : Shr (sumP F) := fun ts a r h => by
  obtain ⟨e, r1, h1, h2⟩ := bind_inv h
  have := proP_shr hF _ _ _ h1
  have := sumLp_len hF _ _ _ _ _ h2
  omega
theorem facP_shr {F : List Str → Rs Ex} (hF : Shr F) : Shr (facP F) := fun ts a r h => by
  unfold facP at h
  split at h
  · cases h
  · split at h
    · cases h; simp
    · split at h
      · obtain ⟨e, r1, h1, h2⟩ := bind_inv h
        have := hF _ _ _ h1
        cases h2
        simp only [List.length_cons]; omega
      · split at h
        · cases h; simp
        · split at h
          · obtain ⟨e, r1, h1, h2⟩ := bind_inv h
            obtain ⟨u, r2, h3, h4⟩ := bind_inv h2
            have := sumP_shr hF _ _ _ h1
            have := xp_len h3
            cases h4
            simp only [List.length_cons]; omega
          · split at h
            · obtain ⟨u, r1, h1, h2⟩ := bind_inv h
              obtain ⟨e, r2, h3, h4⟩ := bind_inv h2
              obtain ⟨u, r3, h5, h6⟩ := bind_inv h4
              have := xp_len h1
              have := sumP_shr hF _ _ _ h3
              have := xp_len h5
              cases h6
              simp only [List.length_cons]; omega
            · split at h
              · obtain ⟨u, r1, h1, h2⟩ := bind_inv h
                obtain ⟨e, r2, h3, h4⟩ := bind_inv h2
                obtain ⟨u, r3, h5, h6⟩ := bind_inv h4
                have := xp_len h1
                have := xpF_len h3
                have := xp_len h5
                cases h6
                simp only [List.length_cons]; omega
              · obtain ⟨e, r1, h1, h2⟩ := bind_inv h
                have := pName_len h1
                cases h2
                exact this
theorem pFac_shr : ∀ d, Shr (pFac d)
  | 0 => fun ts a r h => by cases h
  | d + 1 => facP_shr (pFac_shr d)
theorem proLp_fuel {F : List Str → Rs Ex} (hF : Shr F) : ∀ n m e ts, ts.length < n → ts.length < m → proLp F n e ts = proLp F m e ts := by
  intro n
  induction n with
  | zero => intro m e ts h; omega
  | succ n ih =>
    intro m e ts h1 h2
    cases m with
    | zero => omega
    | succ m =>
      unfold proLp
      cases ts with
      | nil => rfl
      | cons t r =>
        simp only [List.length_cons] at h1 h2
        dsimp only
        cases eo : proOp t with
        | none => rfl
        | some o =>
          dsimp only
          cases e1 : F r with
          | no => rfl
          | err _ => rfl
          | ok e2 r2 =>
            have := hF _ _ _ e1
            exact ih m _ r2 (by omega) (by omega)
theorem sumLp_fuel {F : List Str → Rs Ex} (hF : Shr F) : ∀ n m e ts, ts.length < n → ts.length < m → sumLp F n e ts = sumLp F m e ts := by
  intro n
  induction n with
  | zero => intro m e ts h; omega
  | succ n ih =>
    intro m e ts h1 h2
    cases m with
    | zero => omega
    | succ m =>
      unfold sumLp
      cases ts with
      | nil => rfl
      | cons t r =>
        simp only [List.length_cons] at h1 h2
        dsimp only
        cases eo : sumOp t with
        | none => rfl
        | some o =>
          dsimp only
          cases e1 : proP F r with
          | no => rfl
          | err _ => rfl
          | ok e2 r2 =>
            have := proP_shr hF _ _ _ e1
            exact ih m _ r2 (by omega) (by omega)
def wdOk (z : Str) : Prop := fmOf z = .word
def nmOk (z : Str) : Prop := fmOf z = .word ∧ z ∉ reservedL
inductive TkR : Nat → Nat → Ex → List Str → Prop
  | num {f n : Nat} : TkR (f + 1) 3 (.num n) [S (TL.numL n)]
  | name {f : Nat} {z : Str} : nmOk z → TkR (f + 1) 3 (.name z) [z]
  | next {f : Nat} : TkR (f + 1) 3 .next ["next"]
  | fin {f : Nat} {p : Str} : wdOk p → TkR (f + 1) 3 (.fin p) ["finished", "(", p, ")"]
  | neg {f : Nat} {e : Ex} {ts : List Str} : TkR f 3 e ts → TkR (f + 1) 3 (.neg e) ("-" :: ts)
  | par {f : Nat} {e : Ex} {ts : List Str} : TkR f 1 e ts → TkR (f + 1) 3 e ("(" :: (ts ++ ([")"] : List Str)))
  | queue {f : Nat} {e : Ex} {ts : List Str} : TkR f 1 e ts → TkR (f + 1) 3 (.queue e) ("queue" :: "(" :: (ts ++ ([")"] : List Str)))
  | pro {f : Nat} {o : Op} {l r : Ex} {tl tr : List Str} : o.lv = 2 → TkR f 2 l tl → TkR f 3 r tr → TkR f 2 (.bin o l r) (tl ++ o.s :: tr)
  | sum {f : Nat} {o : Op} {l r : Ex} {tl tr : List Str} : o.lv = 1 → TkR f 1 l tl → TkR f 2 r tr → TkR f 1 (.bin o l r) (tl ++ o.s :: tr)
  | up2 {f : Nat} {e : Ex} {ts : List Str} : TkR f 3 e ts → TkR f 2 e ts
  | up1 {f : Nat} {e : Ex} {ts : List Str} : TkR f 2 e ts → TkR f 1 e ts
theorem TkR.mono {f g l : Nat} {e : Ex} {ts : List Str} (h : TkR f l e ts) : f ≤ g → TkR g l e ts := by
  induction h generalizing g with
  | num => intro hg; obtain ⟨g, rfl⟩ : ∃ k, g = k + 1 := ⟨g - 1, by omega⟩; exact .num
  | name h => intro hg; obtain ⟨g, rfl⟩ : ∃ k, g = k + 1 := ⟨g - 1, by omega⟩; exact .name h
  | next => intro hg; obtain ⟨g, rfl⟩ : ∃ k, g = k + 1 := ⟨g - 1, by omega⟩; exact .next
  | fin h => intro hg; obtain ⟨g, rfl⟩ : ∃ k, g = k + 1 := ⟨g - 1, by omega⟩; exact .fin h
  | neg h ih => intro hg; obtain ⟨g, rfl⟩ : ∃ k, g = k + 1 := ⟨g - 1, by omega⟩; exact .neg (ih (by omega))
  | par h ih => intro hg; obtain ⟨g, rfl⟩ : ∃ k, g = k + 1 := ⟨g - 1, by omega⟩; exact .par (ih (by omega))
  | queue h ih => intro hg; obtain ⟨g, rfl⟩ : ∃ k, g = k + 1 := ⟨g - 1, by omega⟩; exact .queue (ih (by omega))
  | pro h h1 h2 i1 i2 => intro hg; exact .pro h (i1 hg) (i2 hg)
  | sum h h1 h2 i1 i2 => intro hg; exact .sum h (i1 hg) (i2 hg)
  | up2 h ih => intro hg; exact .up2 (ih hg)
  | up1 h ih => intro hg; exact .up1 (ih hg)
theorem TkR.to {f l : Nat} {e : Ex} {ts : List Str} (h : TkR f 3 e ts) (hl : l = 1 ∨ l = 2 ∨ l = 3) : TkR f l e ts := by
  rcases hl with rfl | rfl | rfl
  · exact .up1 (.up2 h)
  · exact .up2 h
  · exact h
def notPro (ts : List Str) : Prop := ∀ t r, ts = t :: r → proOp t = none
def notSum (ts : List Str) : Prop := ∀ t r, ts = t :: r → sumOp t = none
theorem fm_num (n : Nat) : fmOf (S (TL.numL n)) = .number := by
  have h1 := TL.numL_ne n
  have h2 := TL.numL_digits n
  unfold fmOf
  cases h : TL.numL n with
  | nil => exact absurd h h1
  | cons c r =>
    have h3 := h2 c (by rw [h]; exact List.mem_cons_self ..)
    show (if letN c then Fm.word else if digN c then Fm.number else Fm.sign) = .number
    have e1 : letN c = false := by unfold letN; rw [decide_eq_false (by omega)]; rfl
    have e2 : digN c = true := by unfold digN; rw [decide_eq_true h3.1, decide_eq_true h3.2]; rfl
    rw [e1, e2]
    rfl
theorem facP_cons (F : List Str → Rs Ex) (t : Str) (r : List Str) : facP F (t :: r) = if fmOf t = .number then .ok (.num (NumText.digitsVal (cs t))) r
    else if t = "-" then (F r).bind fun e r => .ok (.neg e) r
    else if t = "next" then .ok .next r
    else if t = "(" then (sumP F r).bind fun e r => (xp ")" r).bind fun _ r => .ok e r
    else if t = "queue" then (xp "(" r).bind fun _ r => (sumP F r).bind fun e r => (xp ")" r).bind fun _ r => .ok (.queue e) r
    else if t = "finished" then (xp "(" r).bind fun _ r => (xpF .word r).bind fun p r => (xp ")" r).bind fun _ r => .ok (.fin p) r
    else (pName (t :: r)).bind fun s r => .ok (.name s) r := rfl
theorem xp_cons (x t : Str) (r : List Str) : xp x (t :: r) = if t = x then .ok () r else .err (t :: r) := rfl
theorem xpF_cons (f : Fm) (t : Str) (r : List Str) : xpF f (t :: r) = if fmOf t = f then .ok t r else .err (t :: r) := rfl
theorem pName_cons (t : Str) (r : List Str) : pName (t :: r) = if t ∈ reservedL then .err (t :: r) else if fmOf t = .word then .ok t r else .err (t :: r) := rfl
theorem xp_eq (x : Str) (r : List Str) : xp x (x :: r) = .ok () r := by rw [xp_cons, if_pos rfl]
theorem pName_ok {z : Str} {r : List Str} (h : nmOk z) : pName (z :: r) = .ok z r := by
  rw [pName_cons, if_neg h.2, if_pos h.1]
theorem fac_word {F : List Str → Rs Ex} {z : Str} {r : List Str} (h : nmOk z) : facP F (z :: r) = .ok (.name z) r := by
  have ne : ∀ x : Str, x ∈ reservedL → z ≠ x := fun x hx e => h.2 (e ▸ hx)
  have sg : ∀ x : Str, fmOf x ≠ .word → z ≠ x := fun x hx e => hx (e ▸ h.1)
  rw [facP_cons, if_neg (by rw [h.1]; decide), if_neg (sg _ (by decide +kernel)), if_neg (ne _ (by decide +kernel)), if_neg (sg _ (by decide +kernel)), if_neg (ne _ (by decide +kernel)), if_neg (ne _ (by decide +kernel)), pName_ok h, Rs.bind_ok]
theorem op_pro {o : Op} (h : o.lv = 2) : proOp o.s = some o := by
  cases o <;> first | (exact absurd h (by decide)) | (decide +kernel)
theorem op_sum {o : Op} (h : o.lv = 1) : sumOp o.s = some o := by
  cases o <;> first | (exact absurd h (by decide)) | (decide +kernel)
theorem sum_notPro {o : Op} (h : o.lv = 1) : proOp o.s = none := by
  cases o <;> first | (exact absurd h (by decide)) | (decide +kernel)
theorem proLp_stop {F : List Str → Rs Ex} {n : Nat} {e : Ex} {ts : List Str} (h : notPro ts) : proLp F (n + 1) e ts = .ok e ts := by
  unfold proLp
  cases ts with
  | nil => rfl
  | cons t r =>
    dsimp only
    rw [h t r rfl]
theorem sumLp_stop {F : List Str → Rs Ex} {n : Nat} {e : Ex} {ts : List Str} (h : notSum ts) : sumLp F (n + 1) e ts = .ok e ts := by
  unfold sumLp
  cases ts with
  | nil => rfl
  | cons t r =>
    dsimp only
    rw [h t r rfl]
def PGoal (f l : Nat) (e : Ex) (ts : List Str) : Prop := match l with
  | 3 => ∀ rest, pFac f (ts ++ rest) = .ok e rest
  | 2 => ∀ rest m, rest.length < m → proP (pFac f) (ts ++ rest) = proLp (pFac f) m e rest
  | 1 => ∀ rest m, notPro rest → rest.length < m → sumP (pFac f) (ts ++ rest) = sumLp (pFac f) m e rest
  | _ => True
theorem PGoal.end1 {f : Nat} {e : Ex} {ts rest : List Str} (g : PGoal f 1 e ts) (h1 : notPro rest) (h2 : notSum rest) : sumP (pFac f) (ts ++ rest) = .ok e rest := by
  rw [g rest (rest.length + 1) h1 (by omega)]
  exact sumLp_stop h2
theorem rp_notPro {r : List Str} : notPro (")" :: r) := fun t r' e => by cases e; decide +kernel
theorem rp_notSum {r : List Str} : notSum (")" :: r) := fun t r' e => by cases e; decide +kernel
theorem TkR.goal {f l : Nat} {e : Ex} {ts : List Str} (h : TkR f l e ts) : PGoal f l e ts := by
  induction h with
  | @num f n =>
    intro rest
    show facP (pFac f) (S (TL.numL n) :: rest) = _
    rw [facP_cons, if_pos (fm_num n)]
    show Rs.ok (Ex.num (NumText.digitsVal (TL.numL n))) rest = _
    rw [TL.numL_val]
  | name h => exact fun rest => fac_word h
  | @next f =>
    intro rest
    show facP (pFac f) (("next" : Str) :: rest) = _
    rw [facP_cons, if_neg (by decide +kernel), if_neg (by decide +kernel), if_pos rfl]
  | @fin f p h =>
    intro rest
    show facP (pFac f) (("finished" : Str) :: "(" :: p :: ")" :: rest) = _
    rw [facP_cons, if_neg (by decide +kernel), if_neg (by decide +kernel), if_neg (by decide +kernel), if_neg (by decide +kernel), if_neg (by decide +kernel), if_pos rfl, xp_eq, Rs.bind_ok, xpF_cons, if_pos (show fmOf p = .word from h), Rs.bind_ok, xp_eq, Rs.bind_ok]
  | @neg f e ts h ih =>
    intro rest
    show facP (pFac f) (("-" : Str) :: (ts ++ rest)) = _
    rw [facP_cons, if_neg (by decide +kernel), if_pos rfl, ih rest, Rs.bind_ok]
  | @par f e ts h ih =>
    intro rest
    show facP (pFac f) (("(" : Str) :: (ts ++ [_] ++ rest)) = _
    rw [facP_cons, if_neg (by decide +kernel), if_neg (by decide +kernel), if_neg (by decide +kernel), if_pos rfl, show ts ++ ([")"] : List Str) ++ rest = ts ++ (")" : Str) :: rest by simp, ih.end1 (rest := ")" :: rest) rp_notPro rp_notSum, Rs.bind_ok, xp_eq, Rs.bind_ok]
  | @queue f e ts h ih =>
    intro rest
    show facP (pFac f) (("queue" : Str) :: "(" :: (ts ++ [_] ++ rest)) = _
    rw [facP_cons, if_neg (by decide +kernel), if_neg (by decide +kernel), if_neg (by decide +kernel), if_neg (by decide +kernel), if_pos rfl, xp_eq, Rs.bind_ok, show ts ++ ([")"] : List Str) ++ rest = ts ++ (")" : Str) :: rest by simp, ih.end1 (rest := ")" :: rest) rp_notPro rp_notSum, Rs.bind_ok, xp_eq, Rs.bind_ok]
  | @pro f o l r tl tr h h1 h2 i1 i2 =>
    intro rest m hm
    rw [List.append_assoc, List.cons_append, i1 _ (m + 1 + tr.length + 2) (by simp; omega)]
    rw [show m + 1 + tr.length + 2 = (m + 1 + tr.length + 1) + 1 from rfl]
    rw [proLp]
    rw [op_pro h]
    dsimp only
    rw [i2 rest, Rs.bind_ok]
    exact proLp_fuel (pFac_shr f) _ _ _ _ (by omega) hm
  | @sum f o l r tl tr h h1 h2 i1 i2 =>
    intro rest m hr hm
    rw [List.append_assoc, List.cons_append, i1 _ (m + 1 + tr.length + 2) (fun t r' e => by cases e; exact sum_notPro h) (by simp; omega)]
    rw [show m + 1 + tr.length + 2 = (m + 1 + tr.length + 1) + 1 from rfl]
    rw [sumLp]
    rw [op_sum h]
    dsimp only
    rw [i2 rest (rest.length + 1) (by omega), proLp_stop hr, Rs.bind_ok]
    exact sumLp_fuel (pFac_shr f) _ _ _ _ (by omega) hm
  | @up2 f e ts h ih =>
    intro rest m hm
    unfold proP
    rw [ih rest, Rs.bind_ok]
    exact proLp_fuel (pFac_shr f) _ _ _ _ (by omega) hm
  | @up1 f e ts h ih =>
    intro rest m hr hm
    unfold sumP
    rw [ih rest (rest.length + 1) (by omega), proLp_stop hr, Rs.bind_ok]
    exact sumLp_fuel (pFac_shr f) _ _ _ _ (by omega) hm
theorem TkR.parse {f : Nat} {e : Ex} {ts rest : List Str} (h : TkR f 1 e ts) (h1 : notPro rest) (h2 : notSum rest) : pSum f (ts ++ rest) = .ok e rest := h.goal.end1 h1 h2
def exW : Ex → Prop
  | .num _ => True
  | .name s => nmOk s
  | .neg e => exW e
  | .bin _ l r => exW l ∧ exW r
  | .queue e => exW e
  | .fin p => wdOk p
  | .next => True
def Ex.dp : Ex → Nat
  | .neg e => e.dp + 1
  | .bin _ l r => max l.dp r.dp + 1
  | .queue e => e.dp + 1
  | _ => 0
theorem lv_cases (e : Ex) : e.lv = 1 ∨ e.lv = 2 ∨ e.lv = 3 := by
  cases e with
  | bin o l r => cases o <;> simp [Ex.lv, Op.lv]
  | _ => exact .inr (.inr rfl)
theorem tkE_r : ∀ e : Ex, exW e → TkR (2 * e.dp + 1) e.lv e (tkE e) ∧ ∀ l, l = 1 ∨ l = 2 ∨ l = 3 → TkR (2 * e.dp + 2) l e (tkO e l) := by
  have op : ∀ e, TkR (2 * e.dp + 1) e.lv e (tkE e) → ∀ l, l = 1 ∨ l = 2 ∨ l = 3 → TkR (2 * e.dp + 2) l e (tkO e l) := by
    intro e h l hl
    unfold tkO parT
    have to1 : TkR (2 * e.dp + 1) 1 e (tkE e) := by
      rcases lv_cases e with h1 | h1 | h1
      · rw [h1] at h; exact h
      · rw [h1] at h; exact .up1 h
      · rw [h1] at h; exact .up1 (.up2 h)
    by_cases hlt : e.lv < l
    · rw [decide_eq_true hlt]
      exact (TkR.par to1).to hl
    · rw [decide_eq_false hlt]
      have h := h.mono (show 2 * e.dp + 1 ≤ 2 * e.dp + 2 by omega)
      rcases lv_cases e with h1 | h1 | h1 <;> rw [h1] at h hlt
      · obtain rfl : l = 1 := by omega
        exact h
      · rcases (show l = 1 ∨ l = 2 by omega) with rfl | rfl
        · exact .up1 h
        · exact h
      · exact h.to hl
  intro e
  induction e with
  | num n => exact fun _ => ⟨.num, op _ .num⟩
  | name s => exact fun h => ⟨.name h, op _ (.name h)⟩
  | next => exact fun _ => ⟨.next, op _ .next⟩
  | fin p => exact fun h => ⟨.fin h, op _ (.fin h)⟩
  | neg e ih =>
    intro h
    have h1 : TkR (2 * (Ex.neg e).dp + 1) 3 (.neg e) (tkE (.neg e)) := TkR.neg ((ih h).2 3 (by simp))
    exact ⟨h1, op _ h1⟩
  | queue e ih =>
    intro h
    have h0 := (ih h).2 1 (by simp)
    have h1 : TkR (2 * (Ex.queue e).dp + 1) 3 (.queue e) (tkE (.queue e)) := by
      refine TkR.queue ?_
      have e1 : tkO e 1 = tkE e := by
        unfold tkO parT
        rw [decide_eq_false (by have := lv_cases e; omega)]
        rfl
      rw [e1] at h0
      exact h0
    exact ⟨h1, op _ h1⟩
  | bin o l r il ir =>
    intro h
    have hd : (Ex.bin o l r).dp = max l.dp r.dp + 1 := rfl
    have hl := fun k hk => ((il h.1).2 k hk).mono (show 2 * l.dp + 2 ≤ 2 * (Ex.bin o l r).dp + 1 by omega)
    have hr := fun k hk => ((ir h.2).2 k hk).mono (show 2 * r.dp + 2 ≤ 2 * (Ex.bin o l r).dp + 1 by omega)
    have h1 : TkR (2 * (Ex.bin o l r).dp + 1) o.lv (.bin o l r) (tkE (.bin o l r)) := by
      have ho : o.lv = 1 ∨ o.lv = 2 := by cases o <;> simp [Op.lv]
      rcases ho with ho | ho
      · have := TkR.sum ho (hl 1 (by simp)) (hr 2 (by simp))
        rw [ho]
        unfold tkE
        rw [ho]
        exact this
      · have := TkR.pro ho (hl 2 (by simp)) (hr 3 (by simp))
        rw [ho]
        unfold tkE
        rw [ho]
        exact this
    exact ⟨h1, op _ h1⟩
theorem tkE_one {e : Ex} (h : exW e) : TkR (2 * e.dp + 1) 1 e (tkE e) := by
  have := (tkE_r e h).1
  rcases lv_cases e with h1 | h1 | h1 <;> rw [h1] at this
  · exact this
  · exact .up1 this
  · exact .up1 (.up2 this)
theorem pSum_tk {e : Ex} {D : Nat} {rest : List Str} (h : exW e) (hd : 2 * e.dp + 1 ≤ D) (h1 : notPro rest) (h2 : notSum rest) : pSum D (tkE e ++ rest) = .ok e rest := ((tkE_one h).mono hd).parse h1 h2
end Fb
namespace Fb
open PySem PySem.Spec PyProof.Rows L2 PySem.HandSPX SX
def tgW (D : Nat) : Tg → Prop
  | .port p => wdOk p
  | .station e => exW e ∧ e.dp ≤ D
def smW (D : Nat) : Nat → Sm → Prop
  | 0, _ => False
  | _ + 1, .simple _ e => exW e ∧ e.dp ≤ D
  | _ + 1, .link a b t => (exW a ∧ a.dp ≤ D) ∧ (exW b ∧ b.dp ≤ D) ∧ tgW D t
  | _ + 1, .asg x e => nmOk x ∧ exW e ∧ e.dp ≤ D
  | d + 1, .rep e b => (exW e ∧ e.dp ≤ D) ∧ ∀ s ∈ b, smW D d s
  | d + 1, .ite l _ r a b => (exW l ∧ l.dp ≤ D) ∧ (exW r ∧ r.dp ≤ D) ∧ (∀ s ∈ a, smW D d s) ∧ ∀ s ∈ b, smW D d s
theorem smW_mono {D D' : Nat} (hD : D ≤ D') : ∀ {d d' : Nat} {s : Sm}, d ≤ d' → smW D d s → smW D' d' s := by
  intro d
  induction d with
  | zero => intro d' s _ h; exact h.elim
  | succ d ih =>
    intro d' s hd h
    obtain ⟨d', rfl⟩ : ∃ k, d' = k + 1 := ⟨d' - 1, by omega⟩
    have hd : d ≤ d' := by omega
    cases s with
    | simple k e => exact ⟨h.1, Nat.le_trans h.2 hD⟩
    | link a b t =>
      obtain ⟨h1, h2, h3⟩ := h
      refine ⟨⟨h1.1, Nat.le_trans h1.2 hD⟩, ⟨h2.1, Nat.le_trans h2.2 hD⟩, ?_⟩
      cases t with
      | port p => exact h3
      | station e => exact ⟨h3.1, Nat.le_trans h3.2 hD⟩
    | asg x e => exact ⟨h.1, h.2.1, Nat.le_trans h.2.2 hD⟩
    | rep e b => exact ⟨⟨h.1.1, Nat.le_trans h.1.2 hD⟩, fun s hs => ih hd (h.2 s hs)⟩
    | ite l c r a b =>
      obtain ⟨h1, h2, h3, h4⟩ := h
      exact ⟨⟨h1.1, Nat.le_trans h1.2 hD⟩, ⟨h2.1, Nat.le_trans h2.2 hD⟩, fun s hs => ih hd (h3 s hs), fun s hs => ih hd (h4 s hs)⟩
def notElse (ts : List Str) : Prop := ∀ t r, ts = t :: r → t ≠ "else"
theorem cp_back (c : Cp) : Cp.ofS c.s = some c := by cases c <;> decide +kernel
theorem kw_back (k : Kw) : Kw.ofS k.s = some k := by cases k <;> decide +kernel
theorem cp_notPro {c : Cp} {r : List Str} : notPro (c.s :: r) := fun t r' e => by cases e; cases c <;> decide +kernel
theorem cp_notSum {c : Cp} {r : List Str} : notSum (c.s :: r) := fun t r' e => by cases e; cases c <;> decide +kernel
theorem lb_notPro {r : List Str} : notPro ("{" :: r) := fun t r' e => by cases e; decide +kernel
theorem lb_notSum {r : List Str} : notSum ("{" :: r) := fun t r' e => by cases e; decide +kernel
theorem sc_notPro {r : List Str} : notPro (";" :: r) := fun t r' e => by cases e; decide +kernel
theorem sc_notSum {r : List Str} : notSum (";" :: r) := fun t r' e => by cases e; decide +kernel
theorem cm_notPro {r : List Str} : notPro ("," :: r) := fun t r' e => by cases e; decide +kernel
theorem cm_notSum {r : List Str} : notSum ("," :: r) := fun t r' e => by cases e; decide +kernel
theorem stmP_cons (B : List Str → Rs (List Sm)) (X : List Str → Rs Ex) (t : Str) (r : List Str) : stmP B X (t :: r) = match Kw.ofS t with
    | some k => (X r).bind fun e r => (xp ";" r).bind fun _ r => .ok (.simple k e) r
    | none =>
      if t = "link" then linkP X r
      else if t = "let" then (pName r).bind fun x r => (xp "=" r).bind fun _ r => (X r).bind fun e r => (xp ";" r).bind fun _ r => .ok (.asg x e) r
      else if t = "repeat" then (X r).bind fun e r => (B r).bind fun b r => .ok (.rep e b) r
      else if t = "if" then ifP B X r
      else .err (t :: r) := rfl
theorem blkLp_cons (F : List Str → Rs Sm) (n : Nat) (b : List Sm) (t : Str) (r : List Str) : blkLp F (n + 1) b (t :: r) = if t = "}" then .ok b r else (F (t :: r)).bind fun s r => blkLp F n (b ++ [s]) r := rfl
theorem scrLp_cons (F : List Str → Rs Sm) (n : Nat) (b : List Sm) (t : Str) (r : List Str) : scrLp F (n + 1) b (t :: r) = (F (t :: r)).bind fun s r => scrLp F n (b ++ [s]) r := rfl
theorem tkS_head (s : Sm) : ∃ t r, tkS s = t :: r ∧ t ≠ "}" ∧ t ≠ "else" := by
  cases s with
  | simple k e => exact ⟨_, _, rfl, by cases k <;> decide +kernel, by cases k <;> decide +kernel⟩
  | link a b t => exact ⟨_, _, rfl, by decide +kernel, by decide +kernel⟩
  | asg x e => exact ⟨_, _, rfl, by decide +kernel, by decide +kernel⟩
  | rep e b => exact ⟨_, _, rfl, by decide +kernel, by decide +kernel⟩
  | ite l c r a b => exact ⟨_, _, rfl, by decide +kernel, by decide +kernel⟩
theorem tkB_notElse {b : List Sm} {rest : List Str} (h : notElse rest) : notElse (tkB b ++ rest) := by
  cases b with
  | nil => exact h
  | cons s b =>
    obtain ⟨t, r, e, _, h2⟩ := tkS_head s
    intro t' r' e'
    rw [tkB, e] at e'
    cases e'
    exact h2
theorem pWd_tk {p : Str} {r : List Str} (h : wdOk p) : xpF .word (p :: r) = .ok p r := by rw [xpF_cons, if_pos (show fmOf p = .word from h)]
theorem blk_of {F : List Str → Rs Sm} {Ok : Sm → Prop} (hF : ∀ s rest, Ok s → notElse rest → F (tkS s ++ rest) = .ok s rest) : ∀ (b acc : List Sm) (n : Nat) (rest : List Str), (∀ s ∈ b, Ok s) → (tkB b).length < n → blkLp F n acc (tkB b ++ ("}" : Str) :: rest) = .ok (acc ++ b) rest := by
  intro b
  induction b with
  | nil =>
    intro acc n rest _ hn
    obtain ⟨n, rfl⟩ : ∃ k, n = k + 1 := ⟨n - 1, by omega⟩
    show blkLp F (n + 1) acc (("}" : Str) :: rest) = _
    rw [blkLp_cons, if_pos rfl, List.append_nil]
  | cons s b ih =>
    intro acc n rest hb hn
    obtain ⟨n, rfl⟩ : ∃ k, n = k + 1 := ⟨n - 1, by omega⟩
    obtain ⟨t, r, e, h1, h2⟩ := tkS_head s
    have hs := hF s (tkB b ++ ("}" : Str) :: rest) (hb s (List.mem_cons_self ..)) (tkB_notElse fun t' r' e' => by cases e'; decide +kernel)
    have hl : (tkB (s :: b)).length = (tkS s).length + (tkB b).length := by rw [tkB, List.length_append]
    have hl2 : 1 ≤ (tkS s).length := by rw [e]; simp
    rw [show tkB (s :: b) ++ ("}" : Str) :: rest = tkS s ++ (tkB b ++ ("}" : Str) :: rest) by rw [tkB, List.append_assoc]]
    rw [e] at hs ⊢
    rw [List.cons_append] at hs ⊢
    rw [blkLp_cons, if_neg h1, hs, Rs.bind_ok, ih _ _ _ (fun s hs => hb s (List.mem_cons_of_mem _ hs)) (by omega), List.append_assoc]
    rfl
theorem blkP_tk {F : List Str → Rs Sm} {Ok : Sm → Prop} (hF : ∀ s rest, Ok s → notElse rest → F (tkS s ++ rest) = .ok s rest) {b : List Sm} {rest : List Str} (hb : ∀ s ∈ b, Ok s) : blkP F ("{" :: (tkB b ++ ("}" : Str) :: rest)) = .ok b rest := by
  unfold blkP
  rw [xp_eq, Rs.bind_ok, blk_of hF b [] _ rest hb (by rw [List.length_append]; simp; omega)]
  rfl
theorem pStm_tk {D : Nat} : ∀ (d : Nat) (s : Sm) (rest : List Str), smW D d s → notElse rest → pStm (2 * D + 1) d (tkS s ++ rest) = .ok s rest := by
  intro d
  induction d with
  | zero => intro s rest h; exact h.elim
  | succ d ih =>
    intro s rest h hr
    have X : ∀ {e : Ex} {r : List Str}, exW e ∧ e.dp ≤ D → notPro r → notSum r → pSum (2 * D + 1) (tkE e ++ r) = .ok e r := fun h h1 h2 => pSum_tk h.1 (by omega) h1 h2
    have B := fun {b : List Sm} {r : List Str} => blkP_tk (F := pStm (2 * D + 1) d) (Ok := smW D d) ih (b := b) (rest := r)
    cases s with
    | simple k e =>
      show stmP _ _ (k.s :: (tkE e ++ ([";"] : List Str)) ++ rest) = _
      rw [List.cons_append, stmP_cons, kw_back]
      dsimp only
      rw [List.append_assoc, show ([";"] : List Str) ++ rest = (";" : Str) :: rest from rfl, X h sc_notPro sc_notSum, Rs.bind_ok, xp_eq, Rs.bind_ok]
    | link a b t =>
      obtain ⟨h1, h2, h3⟩ := h
      show stmP _ _ (("link" : Str) :: (tkE a ++ ("," : Str) :: (tkE b ++ ("," : Str) :: (tkT t ++ ([";"] : List Str)))) ++ rest) = _
      rw [List.cons_append, stmP_cons, show Kw.ofS "link" = none by decide +kernel]
      dsimp only
      rw [if_pos rfl]
      unfold linkP
      rw [show tkE a ++ ("," : Str) :: (tkE b ++ ("," : Str) :: (tkT t ++ ([";"] : List Str))) ++ rest = tkE a ++ ("," : Str) :: (tkE b ++ ("," : Str) :: (tkT t ++ (";" : Str) :: rest)) by simp]
      rw [X h1 cm_notPro cm_notSum, Rs.bind_ok, xp_eq, Rs.bind_ok, X h2 cm_notPro cm_notSum, Rs.bind_ok, xp_eq, Rs.bind_ok]
      cases t with
      | port p =>
        rw [show tkT (.port p) ++ (";" : Str) :: rest = ("port" : Str) :: p :: (";" : Str) :: rest from rfl]
        rw [tgtP, if_pos rfl, pWd_tk h3, Rs.bind_ok, Rs.bind_ok, xp_eq, Rs.bind_ok]
      | station e =>
        rw [show tkT (.station e) ++ (";" : Str) :: rest = ("station" : Str) :: (tkE e ++ (";" : Str) :: rest) from rfl]
        rw [tgtP, if_neg (by decide +kernel), if_pos rfl, X h3 sc_notPro sc_notSum, Rs.bind_ok, Rs.bind_ok, xp_eq, Rs.bind_ok]
    | asg x e =>
      obtain ⟨h1, h2⟩ := h
      show stmP _ _ (("let" : Str) :: x :: ("=" : Str) :: (tkE e ++ ([";"] : List Str)) ++ rest) = _
      rw [List.cons_append, List.cons_append, List.cons_append, stmP_cons, show Kw.ofS "let" = none by decide +kernel]
      dsimp only
      rw [if_neg (by decide +kernel), if_pos rfl, pName_ok h1, Rs.bind_ok, xp_eq, Rs.bind_ok, List.append_assoc, show ([";"] : List Str) ++ rest = (";" : Str) :: rest from rfl, X h2 sc_notPro sc_notSum, Rs.bind_ok, xp_eq, Rs.bind_ok]
    | rep e b =>
      obtain ⟨h1, h2⟩ := h
      show stmP _ _ (("repeat" : Str) :: (tkE e ++ ("{" : Str) :: (tkB b ++ (["}"] : List Str))) ++ rest) = _
      rw [List.cons_append, stmP_cons, show Kw.ofS "repeat" = none by decide +kernel]
      dsimp only
      rw [if_neg (by decide +kernel), if_neg (by decide +kernel), if_pos rfl]
      rw [show tkE e ++ ("{" : Str) :: (tkB b ++ (["}"] : List Str)) ++ rest = tkE e ++ ("{" : Str) :: (tkB b ++ ("}" : Str) :: rest) by simp]
      rw [X h1 lb_notPro lb_notSum, Rs.bind_ok, B h2, Rs.bind_ok]
    | ite l c r a b =>
      obtain ⟨h1, h2, h3, h4⟩ := h
      show stmP _ _ (("if" : Str) :: (tkE l ++ c.s :: (tkE r ++ ("{" : Str) :: (tkB a ++ ("}" : Str) :: (if b.isEmpty then [] else ("else" : Str) :: ("{" : Str) :: (tkB b ++ (["}"] : List Str)))))) ++ rest) = _
      rw [List.cons_append, stmP_cons, show Kw.ofS "if" = none by decide +kernel]
      dsimp only
      rw [if_neg (by decide +kernel), if_neg (by decide +kernel), if_neg (by decide +kernel), if_pos rfl]
      unfold ifP
      generalize ht : (if b.isEmpty then [] else ("else" : Str) :: ("{" : Str) :: (tkB b ++ (["}"] : List Str))) = tail
      rw [show tkE l ++ c.s :: (tkE r ++ ("{" : Str) :: (tkB a ++ ("}" : Str) :: tail)) ++ rest = tkE l ++ c.s :: (tkE r ++ ("{" : Str) :: (tkB a ++ ("}" : Str) :: (tail ++ rest))) by simp]
      rw [X h1 cp_notPro cp_notSum, Rs.bind_ok, cmpP, cp_back]
      dsimp only
      rw [Rs.bind_ok, X h2 lb_notPro lb_notSum, Rs.bind_ok, B h3, Rs.bind_ok]
      have fin : elseP (blkP (pStm (2 * D + 1) d)) (tail ++ rest) = .ok b rest := by
        cases b with
        | nil =>
          subst ht
          show elseP _ rest = _
          unfold elseP
          cases rest with
          | nil => rfl
          | cons t r' =>
            dsimp only
            rw [if_neg (hr t r' rfl)]
        | cons s b =>
          subst ht
          show elseP _ (("else" : Str) :: ("{" : Str) :: (tkB (s :: b) ++ (["}"] : List Str)) ++ rest) = _
          rw [show ("else" : Str) :: ("{" : Str) :: (tkB (s :: b) ++ (["}"] : List Str)) ++ rest = ("else" : Str) :: ("{" : Str) :: (tkB (s :: b) ++ ("}" : Str) :: rest) by simp]
          rw [elseP, if_pos rfl, B h4]
      rw [fin, Rs.bind_ok]
theorem scr_of {F : List Str → Rs Sm} {Ok : Sm → Prop} (hF : ∀ s rest, Ok s → notElse rest → F (tkS s ++ rest) = .ok s rest) : ∀ (b acc : List Sm) (n : Nat), (∀ s ∈ b, Ok s) → (tkB b).length < n → scrLp F n acc (tkB b) = .ok (acc ++ b) [] := by
  intro b
  induction b with
  | nil =>
    intro acc n _ hn
    obtain ⟨n, rfl⟩ : ∃ k, n = k + 1 := ⟨n - 1, by omega⟩
    rw [List.append_nil]
    rfl
  | cons s b ih =>
    intro acc n hb hn
    obtain ⟨n, rfl⟩ : ∃ k, n = k + 1 := ⟨n - 1, by omega⟩
    obtain ⟨t, r, e, h1, h2⟩ := tkS_head s
    have hs := hF s (tkB b) (hb s (List.mem_cons_self ..)) (by
      have := tkB_notElse (b := b) (rest := []) (fun t' r' e' => by cases e')
      rw [List.append_nil] at this
      exact this)
    have hl : (tkB (s :: b)).length = (tkS s).length + (tkB b).length := by rw [tkB, List.length_append]
    have hl2 : 1 ≤ (tkS s).length := by rw [e]; simp
    rw [show tkB (s :: b) = tkS s ++ tkB b from by rw [tkB]]
    rw [e] at hs ⊢
    rw [List.cons_append] at hs ⊢
    rw [scrLp_cons, hs, Rs.bind_ok, ih _ _ (fun s hs => hb s (List.mem_cons_of_mem _ hs)) (by omega), List.append_assoc]
    rfl
theorem pScr_tk {D d : Nat} {b : List Sm} (h : ∀ s ∈ b, smW D d s) : pScr (2 * D + 1) d (tkB b) = .ok b [] := by
  unfold pScr
  rw [scr_of (Ok := smW D d) (pStm_tk d) b [] _ h (by omega)]
  rfl
end Fb
namespace Fb
open PySem PySem.Spec PyProof.Rows L2 PySem.HandSPX SX
structure Tok where
  tx : Str
  row : Nat
  col : Nat
def signsL : List (List Nat) := [[60, 61], [62, 61], [33, 61], [123], [125], [40], [41], [59], [44], [43], [45], [42], [60], [61], [62]]
def lexTok (l : List Nat) : Option (List Nat) :=
  if 1 ≤ (l.takeWhile letN).length ∧ (l.takeWhile letN).length ≤ 8 then some (l.takeWhile letN)
  else if (1 ≤ (l.takeWhile digN).length ∧ (l.takeWhile digN).length ≤ 18) ∧ (l.takeWhile digN = [48] ∨ (l.takeWhile digN)[0]? ≠ some 48) then some (l.takeWhile digN)
  else signsL.find? fun s => decide (l.take s.length = s)
def lexLn : Nat → Nat → Nat → List Tok → List Nat → Except (Nat × Nat) (List Tok)
  | 0, _, _, acc, _ => .ok acc
  | _ + 1, _, _, acc, [] => .ok acc
  | n + 1, row, col, acc, c :: r =>
    if c = 35 then .ok acc else if c = 32 then lexLn n row (col + 1) acc r
    else match lexTok (c :: r) with
      | none => .error (row, col)
      | some t => lexLn n row (col + t.length) (acc ++ [⟨S t, row, col⟩]) ((c :: r).drop t.length)
def lexLs : Nat → List Tok → List (List Nat) → Except (Nat × Nat) (List Tok)
  | _, acc, [] => .ok acc
  | row, acc, l :: ls => match lexLn (l.length + 1) row 0 acc l with
    | .ok acc => lexLs (row + 1) acc ls
    | .error e => .error e
def spN : List Nat → List (List Nat)
  | [] => [[]]
  | c :: l => if c = 10 then [] :: spN l else match spN l with
    | h :: t => (c :: h) :: t
    | [] => [[c]]
def lexAll (l : List Nat) : Except (Nat × Nat) (List Tok) := lexLs 0 [] (spN l)
theorem spN_ne : ∀ l, ∃ h t, spN l = h :: t
  | [] => ⟨[], [], rfl⟩
  | c :: l => by
    obtain ⟨h, t, e⟩ := spN_ne l
    unfold spN
    by_cases hc : c = 10
    · rw [if_pos hc]; exact ⟨_, _, rfl⟩
    · rw [if_neg hc, e]; exact ⟨_, _, rfl⟩
theorem spN_nl (l : List Nat) : spN (10 :: l) = [] :: spN l := by rw [spN, if_pos rfl]
theorem spN_c {c : Nat} {l h : List Nat} {t : List (List Nat)} (hc : c ≠ 10) (e : spN l = h :: t) : spN (c :: l) = (c :: h) :: t := by rw [spN, if_neg hc, e]
theorem spl_spN : ∀ (l acc : List Nat), TL.spl [10] 0 acc l = (match spN l with | h :: t => (acc ++ h) :: t | [] => [acc])
  | [], acc => by simp [TL.spl, spN]
  | c :: l, acc => by
    obtain ⟨h, t, e⟩ := spN_ne l
    rw [TL.spl]
    by_cases hc : c = 10
    · subst hc
      rw [spN_nl]
      have ih := spl_spN l []
      rw [e] at ih ⊢
      rw [if_pos (by simp [TL.pre])]
      simp at ih ⊢
      exact ih
    · have ih := spl_spN l (acc ++ [c])
      rw [e] at ih
      rw [spN_c hc e]
      simp at ih ⊢
      rw [if_neg (by simpa [TL.pre] using hc)]
      exact ih
theorem spl1_spN (l : List Nat) : TL.spl [10] 0 [] l = spN l := by
  obtain ⟨h, t, e⟩ := spN_ne l
  rw [spl_spN, e]
  rfl
def lx : Nat → Nat → Nat → List Tok → List Nat → Except (Nat × Nat) (List Tok)
  | 0, _, _, acc, _ => .ok acc
  | _ + 1, _, _, acc, [] => .ok acc
  | n + 1, row, col, acc, c :: r =>
    if c = 10 then lx n (row + 1) 0 acc r else if c = 35 then lx n row col acc (r.dropWhile fun c => decide (c ≠ 10)) else if c = 32 then lx n row (col + 1) acc r
    else match lexTok (c :: r) with
      | none => .error (row, col)
      | some t => lx n row (col + t.length) (acc ++ [⟨S t, row, col⟩]) ((c :: r).drop t.length)
theorem lexTok_pos {l t : List Nat} (h : lexTok l = some t) : 1 ≤ t.length ∧ ∃ r, l = t ++ r := by
  unfold lexTok at h
  split at h
  · rename_i h1
    cases h
    exact ⟨h1.1, _, (List.takeWhile_append_dropWhile (p := letN) (l := l)).symm⟩
  · split at h
    · rename_i h1
      cases h
      exact ⟨h1.1.1, _, (List.takeWhile_append_dropWhile (p := digN) (l := l)).symm⟩
    · have h1 := List.find?_some h
      have h2 := List.mem_of_find?_eq_some h
      have h1 := of_decide_eq_true h1
      refine ⟨?_, l.drop t.length, by conv => lhs; rw [← List.take_append_drop t.length l, h1]⟩
      revert h2
      unfold signsL
      intro h2
      simp only [List.mem_cons, List.not_mem_nil, or_false] at h2
      rcases h2 with rfl | rfl | rfl | rfl | rfl | rfl | rfl | rfl | rfl | rfl | rfl | rfl | rfl | rfl | rfl <;> decide
theorem tw_line (p : Nat → Bool) (hp : p 10 = false) : ∀ l h t, spN l = h :: t → l.takeWhile p = h.takeWhile p
  | [], h, t, e => by cases e; rfl
  | c :: l, h, t, e => by
    by_cases hc : c = 10
    · subst hc
      rw [spN_nl] at e
      cases e
      simp [List.takeWhile, hp]
    · obtain ⟨h', t', e'⟩ := spN_ne l
      rw [spN_c hc e'] at e
      cases e
      simp only [List.takeWhile_cons]
      rw [tw_line p hp l h' _ e']
theorem take_line : ∀ (s l h : List Nat) (t : List (List Nat)), 10 ∉ s → spN l = h :: t → (l.take s.length = s ↔ h.take s.length = s)
  | [], l, h, t, _, _ => by simp
  | x :: s, [], h, t, _, e => by cases e; simp
  | x :: s, c :: l, h, t, hs, e => by
    simp only [List.mem_cons, not_or] at hs
    by_cases hc : c = 10
    · subst hc
      rw [spN_nl] at e
      cases e
      simp [hs.1]
    · obtain ⟨h', t', e'⟩ := spN_ne l
      rw [spN_c hc e'] at e
      cases e
      simp only [List.length_cons, List.take_succ_cons, List.cons.injEq]
      rw [take_line s l h' _ hs.2 e']
theorem find_congr {α : Type} {p q : α → Bool} : ∀ {l : List α}, (∀ x ∈ l, p x = q x) → l.find? p = l.find? q
  | [], _ => rfl
  | x :: l, h => by
    rw [List.find?_cons, List.find?_cons, h x (List.mem_cons_self ..), find_congr fun y hy => h y (List.mem_cons_of_mem _ hy)]
theorem lexTok_line {l h : List Nat} {t : List (List Nat)} (e : spN l = h :: t) : lexTok l = lexTok h := by
  unfold lexTok
  rw [tw_line letN (by decide) l h t e, tw_line digN (by decide) l h t e]
  congr 2
  refine find_congr fun s hs => ?_
  have : 10 ∉ s := by
    revert hs
    unfold signsL
    intro h2
    simp only [List.mem_cons, List.not_mem_nil, or_false] at h2
    rcases h2 with rfl | rfl | rfl | rfl | rfl | rfl | rfl | rfl | rfl | rfl | rfl | rfl | rfl | rfl | rfl <;> decide
  rw [decide_eq_decide]
  exact take_line s l h t this e
theorem spN_drop : ∀ (k : Nat) (l h : List Nat) (t : List (List Nat)), spN l = h :: t → k ≤ h.length → spN (l.drop k) = h.drop k :: t
  | 0, l, h, t, e, _ => by simpa using e
  | k + 1, [], h, t, e, hk => by cases e; simp at hk
  | k + 1, c :: l, h, t, e, hk => by
    by_cases hc : c = 10
    · subst hc
      rw [spN_nl] at e
      cases e
      simp at hk
    · obtain ⟨h', t', e'⟩ := spN_ne l
      rw [spN_c hc e'] at e
      cases e
      simp only [List.length_cons] at hk
      simpa using spN_drop k l h' _ e' (by omega)
theorem lexLn_fuel : ∀ (n m row col : Nat) (acc : List Tok) (l : List Nat), l.length < n → l.length < m → lexLn n row col acc l = lexLn m row col acc l := by
  intro n
  induction n with
  | zero => intro m row col acc l h; omega
  | succ n ih =>
    intro m row col acc l h1 h2
    obtain ⟨m, rfl⟩ : ∃ k, m = k + 1 := ⟨m - 1, by omega⟩
    cases l with
    | nil => rfl
    | cons c r =>
      simp only [List.length_cons] at h1 h2
      rw [lexLn, lexLn]
      by_cases h35 : c = 35
      · rw [if_pos h35, if_pos h35]
      · rw [if_neg h35, if_neg h35]
        by_cases h32 : c = 32
        · rw [if_pos h32, if_pos h32]
          exact ih _ _ _ _ _ (by omega) (by omega)
        · rw [if_neg h32, if_neg h32]
          cases e : lexTok (c :: r) with
          | none => rfl
          | some t =>
            have h3 := (lexTok_pos e).1
            exact ih _ _ _ _ _ (by rw [List.length_drop, List.length_cons]; omega) (by rw [List.length_drop, List.length_cons]; omega)
theorem dw_line : ∀ (l h : List Nat) (t : List (List Nat)), spN l = h :: t → spN (l.dropWhile fun c => decide (c ≠ 10)) = [] :: t
  | [], h, t, e => by cases e; rfl
  | c :: l, h, t, e => by
    by_cases hc : c = 10
    · subst hc
      rw [spN_nl] at e
      cases e
      rw [List.dropWhile_cons, if_neg (by decide), spN_nl]
    · obtain ⟨h', t', e'⟩ := spN_ne l
      rw [spN_c hc e'] at e
      cases e
      rw [List.dropWhile_cons, if_pos (decide_eq_true hc)]
      exact dw_line l h' _ e'
theorem dw_len (l : List Nat) : (l.dropWhile fun c => decide (c ≠ 10)).length ≤ l.length := by
  have := congrArg List.length (List.takeWhile_append_dropWhile (p := fun c => decide (c ≠ 10)) (l := l))
  rw [List.length_append] at this
  omega
theorem lx_lines : ∀ (n row col : Nat) (acc : List Tok) (l h : List Nat) (t : List (List Nat)), l.length < n → spN l = h :: t → lx n row col acc l = (match lexLn (h.length + 1) row col acc h with | .ok acc => lexLs (row + 1) acc t | .error e => .error e) := by
  intro n
  induction n with
  | zero => intro row col acc l h t hl; omega
  | succ n ih =>
    intro row col acc l h t hl e
    cases l with
    | nil => cases e; rfl
    | cons c r =>
      simp only [List.length_cons] at hl
      rw [lx]
      by_cases h10 : c = 10
      · subst h10
        rw [spN_nl] at e
        cases e
        rw [if_pos rfl]
        obtain ⟨h', t', e'⟩ := spN_ne r
        rw [ih (row + 1) 0 acc r h' t' (by omega) e', e']
        rfl
      · rw [if_neg h10]
        obtain ⟨h', t', e'⟩ := spN_ne r
        have e0 := e
        rw [spN_c h10 e'] at e
        cases e
        by_cases h35 : c = 35
        · subst h35
          rw [if_pos rfl, ih row col acc _ [] t (by have := dw_len r; omega) (dw_line r h' t e')]
          rfl
        · rw [if_neg h35]
          by_cases h32 : c = 32
          · subst h32
            rw [if_pos rfl, ih row (col + 1) acc r h' t (by omega) e']
            rw [show lexLn ((32 :: h').length + 1) row col acc (32 :: h') = lexLn (h'.length + 1) row (col + 1) acc h' from rfl]
          · rw [if_neg h32]
            rw [lexTok_line e0]
            have e2 : lexLn ((c :: h').length + 1) row col acc (c :: h') = (match lexTok (c :: h') with
              | none => .error (row, col)
              | some t => lexLn (h'.length + 1) row (col + t.length) (acc ++ [⟨S t, row, col⟩]) ((c :: h').drop t.length)) := by
              show lexLn (h'.length + 1 + 1) row col acc (c :: h') = _
              rw [lexLn, if_neg h35, if_neg h32]
            rw [e2]
            cases et : lexTok (c :: h') with
            | none => rfl
            | some tk =>
              obtain ⟨h3, r', h4⟩ := lexTok_pos et
              have h5 : tk.length ≤ (c :: h').length := by rw [h4, List.length_append]; omega
              dsimp only
              rw [ih row _ _ _ _ t (by rw [List.length_drop, List.length_cons]; omega) (spN_drop tk.length _ _ _ e0 h5)]
              rw [lexLn_fuel ((List.drop tk.length (c :: h')).length + 1) (h'.length + 1) _ _ _ _ (by omega) (by rw [List.length_drop, List.length_cons]; omega)]
theorem lexAll_lx (l : List Nat) (n : Nat) (h : l.length < n) : lexAll l = lx n 0 0 [] l := by
  obtain ⟨h', t', e⟩ := spN_ne l
  rw [lx_lines n 0 0 [] l h' t' h e]
  unfold lexAll
  rw [e]
  rfl
def ltW (t : List Nat) : Prop := (t.all letN = true ∧ 1 ≤ t.length ∧ t.length ≤ 8)
def dgW (t : List Nat) : Prop := (t.all digN = true ∧ 1 ≤ t.length ∧ t.length ≤ 18 ∧ (t = [48] ∨ t[0]? ≠ some 48))
def tokG (t : List Nat) : Prop := ltW t ∨ dgW t ∨ t ∈ signsL
def sigE (t : List Nat) : Bool := decide (t = [60]) || decide (t = [62]) || decide (t = [33])
def glueC (t : List Nat) (c : Nat) : Bool := (match t with | a :: _ => letN a && letN c || digN a && digN c | [] => false) || sigE t && decide (c = 61)
def apart (t r : List Nat) : Prop := ∀ c r', r = c :: r' → glueC t c = false
theorem letN_digN {c : Nat} (h : letN c = true) : digN c = false := by
  unfold letN at h
  unfold digN
  rw [Bool.and_eq_true, decide_eq_true_iff, decide_eq_true_iff] at h
  rw [decide_eq_false (p := c ≤ 57) (by omega), Bool.and_false]
theorem tw_all {p : Nat → Bool} {t r : List Nat} (h : t.all p = true) (hr : ∀ c r', r = c :: r' → p c = false) : (t ++ r).takeWhile p = t := by
  rw [List.takeWhile_append_of_pos (List.all_eq_true.mp h)]
  cases r with
  | nil => simp
  | cons c r' => rw [List.takeWhile_cons, hr c r' rfl]; simp
theorem lexTok_ok {t r : List Nat} (g : tokG t) (a : apart t r) : lexTok (t ++ r) = some t := by
  rcases g with ⟨h1, h2, h3⟩ | ⟨h1, h2, h3, h4⟩ | h
  · cases t with
    | nil => simp at h2
    | cons x t =>
      have hx : letN x = true := List.all_eq_true.mp h1 x (List.mem_cons_self ..)
      have e := tw_all (r := r) h1 fun c r' e => by
        have := a c r' e
        unfold glueC at this
        dsimp only at this
        rw [hx, Bool.true_and] at this
        cases hc : letN c with
        | false => rfl
        | true => rw [hc] at this; simp at this
      unfold lexTok
      rw [e, if_pos ⟨h2, h3⟩]
  · cases t with
    | nil => simp at h2
    | cons x t =>
      have hx : digN x = true := List.all_eq_true.mp h1 x (List.mem_cons_self ..)
      have hx2 : letN x = false := by
        cases q : letN x with
        | false => rfl
        | true => rw [letN_digN q] at hx; cases hx
      have e := tw_all (r := r) h1 fun c r' e => by
        have := a c r' e
        unfold glueC at this
        dsimp only at this
        rw [hx, hx2, Bool.true_and] at this
        cases hc : digN c with
        | false => rfl
        | true => rw [hc] at this; simp at this
      unfold lexTok
      rw [e, show ((x :: t) ++ r).takeWhile letN = [] by rw [List.cons_append, List.takeWhile_cons, hx2]; rfl]
      rw [if_neg (by simp), if_pos ⟨⟨h2, h3⟩, h4⟩]
  · have key : ∀ x t', t = x :: t' → letN x = false → digN x = false → lexTok (t ++ r) = signsL.find? fun s => decide ((t ++ r).take s.length = s) := by
      rintro x t' rfl h1 h2
      unfold lexTok
      rw [show ((x :: t') ++ r).takeWhile letN = [] by rw [List.cons_append, List.takeWhile_cons, h1]; rfl]
      rw [show ((x :: t') ++ r).takeWhile digN = [] by rw [List.cons_append, List.takeWhile_cons, h2]; rfl]
      rw [if_neg (by simp), if_neg (by simp)]
    unfold signsL at h
    simp only [List.mem_cons, List.not_mem_nil, or_false] at h
    have cut : ∀ x : Nat, (x = 60 ∨ x = 62 ∨ x = 33) → apart [x] r → (x :: r).take 2 ≠ [x, 61] := by
      intro x hx a e
      cases r with
      | nil => simp at e
      | cons c r' =>
        simp at e
        have := a c r' rfl
        subst e
        rcases hx with rfl | rfl | rfl <;> simp [glueC, sigE] at this
    rcases h with rfl | rfl | rfl | rfl | rfl | rfl | rfl | rfl | rfl | rfl | rfl | rfl | rfl | rfl | rfl <;> rw [key _ _ rfl (by decide) (by decide)] <;> simp [signsL]
    · cases r with
      | nil => simp
      | cons c r' =>
        have := cut 60 (by simp) a
        simp at this
        simp [this]
    · cases r with
      | nil => simp
      | cons c r' =>
        have := cut 62 (by simp) a
        simp at this
        simp [this]
end Fb
namespace Fb
open PySem PySem.Spec PyProof.Rows L2 PySem.HandSPX SX
def gapsL : List (List Nat) := [[], [32], [32, 32], [10], [10, 32, 32], [32, 35, 32, 108, 101, 116, 32, 59, 32, 123, 10], [35, 10], [10, 35, 32, 105, 102, 32, 125, 10]]
def endsL : List (List Nat) := [[], [10], [32], [35, 32, 101, 110, 100]]
def mzT (ps : List (List Nat × List Nat)) : List Nat := ps.flatMap fun p => p.1 ++ p.2
def gluT (one other : List Nat) : Bool := match other with
  | c :: _ => glueC one c
  | [] => false
def mzOk : List Nat → List (List Nat × List Nat) → Prop
  | _, [] => True
  | prev, (g, t) :: ps => g ∈ gapsL ∧ tokG t ∧ (g = [] → prev ≠ [] → gluT prev t = false) ∧ mzOk t ps
theorem tokG_ne {t : List Nat} (h : tokG t) : ∃ c r, t = c :: r := by
  rcases h with h | h | h
  · cases t with
    | nil => exact absurd h.2.1 (by simp)
    | cons c r => exact ⟨c, r, rfl⟩
  · cases t with
    | nil => exact absurd h.2.1 (by simp)
    | cons c r => exact ⟨c, r, rfl⟩
  · unfold signsL at h
    simp only [List.mem_cons, List.not_mem_nil, or_false] at h
    rcases h with rfl | rfl | rfl | rfl | rfl | rfl | rfl | rfl | rfl | rfl | rfl | rfl | rfl | rfl | rfl <;> exact ⟨_, _, rfl⟩
theorem tokG_head {c : Nat} {r : List Nat} (h : tokG (c :: r)) : c ≠ 10 ∧ c ≠ 35 ∧ c ≠ 32 := by
  have l : letN c = true → c ≠ 10 ∧ c ≠ 35 ∧ c ≠ 32 := fun h => by
    unfold letN at h
    rw [Bool.and_eq_true, decide_eq_true_iff, decide_eq_true_iff] at h
    omega
  have d : digN c = true → c ≠ 10 ∧ c ≠ 35 ∧ c ≠ 32 := fun h => by
    unfold digN at h
    rw [Bool.and_eq_true, decide_eq_true_iff, decide_eq_true_iff] at h
    omega
  rcases h with h | h | h
  · exact l (List.all_eq_true.mp h.1 c (List.mem_cons_self ..))
  · exact d (List.all_eq_true.mp h.1 c (List.mem_cons_self ..))
  · unfold signsL at h
    simp only [List.mem_cons, List.not_mem_nil, or_false, List.cons.injEq] at h
    omega
theorem glue_gap {t : List Nat} {c : Nat} (h : c = 10 ∨ c = 32 ∨ c = 35) : glueC t c = false := by
  unfold glueC
  have e1 : letN c = false := by rcases h with rfl | rfl | rfl <;> decide
  have e2 : digN c = false := by rcases h with rfl | rfl | rfl <;> decide
  have e3 : decide (c = 61) = false := by rcases h with rfl | rfl | rfl <;> decide
  rw [e1, e2, e3]
  cases t <;> simp
theorem gap_head {g : List Nat} (h : g ∈ gapsL) : g = [] ∨ ∃ c r, g = c :: r ∧ (c = 10 ∨ c = 32 ∨ c = 35) := by
  unfold gapsL at h
  simp only [List.mem_cons, List.not_mem_nil, or_false] at h
  rcases h with rfl | rfl | rfl | rfl | rfl | rfl | rfl | rfl
  · exact .inl rfl
  all_goals exact .inr ⟨_, _, rfl, by simp⟩
theorem apart_mz {t e : List Nat} {ps : List (List Nat × List Nat)} (he : e ∈ endsL) (h : mzOk t ps) (ht : t ≠ []) : apart t (mzT ps ++ e) := by
  intro c r' q
  cases ps with
  | nil =>
    have q : e = c :: r' := q
    subst q
    unfold endsL at he
    simp only [List.mem_cons, List.not_mem_nil, or_false, List.cons.injEq] at he
    exact glue_gap (by simp at he; omega)
  | cons p ps =>
    obtain ⟨g, t2⟩ := p
    obtain ⟨h1, h2, h3, _⟩ := h
    obtain ⟨x, r2, rfl⟩ := tokG_ne h2
    have q : g ++ (x :: r2) ++ mzT ps ++ e = c :: r' := by simpa [mzT] using q
    rcases gap_head h1 with rfl | ⟨d, r3, rfl, hd⟩
    · have q : x = c := by
        have := (List.cons.inj (show x :: (r2 ++ mzT ps ++ e) = c :: r' by simpa using q)).1
        exact this
      subst q
      exact h3 rfl ht
    · have q : d = c := (List.cons.inj (show d :: (r3 ++ (x :: r2) ++ mzT ps ++ e) = c :: r' by simpa using q)).1
      subst q
      exact glue_gap hd
theorem lx_gap {g : List Nat} (h : g ∈ gapsL) (n row col : Nat) (acc : List Tok) (rest : List Nat) (hn : (g ++ rest).length < n) : ∃ n' row' col', rest.length < n' ∧ lx n row col acc (g ++ rest) = lx n' row' col' acc rest := by
  have hn : g.length + rest.length < n := by rw [← List.length_append]; exact hn
  unfold gapsL at h
  simp only [List.mem_cons, List.not_mem_nil, or_false] at h
  rcases h with rfl | rfl | rfl | rfl | rfl | rfl | rfl | rfl
  · exact ⟨n, row, col, by simpa using hn, rfl⟩
  · obtain ⟨m, rfl⟩ : ∃ m, n = m + 1 := ⟨n - 1, by simp at hn; omega⟩
    exact ⟨m, _, _, by simp at hn; omega, rfl⟩
  · obtain ⟨m, rfl⟩ : ∃ m, n = m + 2 := ⟨n - 2, by simp at hn; omega⟩
    exact ⟨m, _, _, by simp at hn; omega, rfl⟩
  · obtain ⟨m, rfl⟩ : ∃ m, n = m + 1 := ⟨n - 1, by simp at hn; omega⟩
    exact ⟨m, _, _, by simp at hn; omega, rfl⟩
  · obtain ⟨m, rfl⟩ : ∃ m, n = m + 3 := ⟨n - 3, by simp at hn; omega⟩
    exact ⟨m, _, _, by simp at hn; omega, rfl⟩
  · obtain ⟨m, rfl⟩ : ∃ m, n = m + 3 := ⟨n - 3, by simp at hn; omega⟩
    exact ⟨m, _, _, by simp at hn; omega, rfl⟩
  · obtain ⟨m, rfl⟩ : ∃ m, n = m + 2 := ⟨n - 2, by simp at hn; omega⟩
    exact ⟨m, _, _, by simp at hn; omega, rfl⟩
  · obtain ⟨m, rfl⟩ : ∃ m, n = m + 3 := ⟨n - 3, by simp at hn; omega⟩
    exact ⟨m, _, _, by simp at hn; omega, rfl⟩
theorem lx_end {e : List Nat} (h : e ∈ endsL) (n row col : Nat) (acc : List Tok) (hn : e.length < n) : lx n row col acc e = .ok acc := by
  unfold endsL at h
  simp only [List.mem_cons, List.not_mem_nil, or_false] at h
  rcases h with rfl | rfl | rfl | rfl
  · obtain ⟨m, rfl⟩ : ∃ m, n = m + 1 := ⟨n - 1, by simp at hn; omega⟩
    rfl
  · obtain ⟨m, rfl⟩ : ∃ m, n = m + 2 := ⟨n - 2, by simp at hn; omega⟩
    rfl
  · obtain ⟨m, rfl⟩ : ∃ m, n = m + 2 := ⟨n - 2, by simp at hn; omega⟩
    rfl
  · obtain ⟨m, rfl⟩ : ∃ m, n = m + 2 := ⟨n - 2, by simp at hn; omega⟩
    rfl
theorem lx_tok {t rest : List Nat} (g : tokG t) (a : apart t rest) (n row col : Nat) (acc : List Tok) (hn : (t ++ rest).length < n) : ∃ n', rest.length < n' ∧ lx n row col acc (t ++ rest) = lx n' row (col + t.length) (acc ++ [⟨S t, row, col⟩]) rest := by
  obtain ⟨c, r, rfl⟩ := tokG_ne g
  obtain ⟨h1, h2, h3⟩ := tokG_head g
  rw [List.length_append, List.length_cons] at hn
  obtain ⟨m, rfl⟩ : ∃ m, n = m + 1 := ⟨n - 1, by omega⟩
  refine ⟨m, by omega, ?_⟩
  rw [List.cons_append, lx, if_neg h1, if_neg h2, if_neg h3, ← List.cons_append, lexTok_ok g a]
  dsimp only
  rw [List.drop_left]
theorem lx_mz {e : List Nat} (he : e ∈ endsL) : ∀ (ps : List (List Nat × List Nat)) (prev : List Nat) (n row col : Nat) (acc : List Tok), mzOk prev ps → (mzT ps ++ e).length < n → ∃ acc', lx n row col acc (mzT ps ++ e) = .ok acc' ∧ acc'.map (·.tx) = acc.map (·.tx) ++ ps.map fun p => S p.2 := by
  intro ps
  induction ps with
  | nil =>
    intro prev n row col acc _ hn
    exact ⟨acc, lx_end he n row col acc hn, by simp⟩
  | cons p ps ih =>
    intro prev n row col acc h hn
    obtain ⟨g, t⟩ := p
    obtain ⟨h1, h2, h3, h4⟩ := h
    have e1 : mzT ((g, t) :: ps) ++ e = g ++ (t ++ (mzT ps ++ e)) := by simp [mzT]
    rw [e1] at hn ⊢
    obtain ⟨n1, row1, col1, hn1, q1⟩ := lx_gap h1 n row col acc _ hn
    rw [q1]
    obtain ⟨c, r, ht⟩ := tokG_ne h2
    obtain ⟨n2, hn2, q2⟩ := lx_tok h2 (apart_mz he h4 (by rw [ht]; simp)) n1 row1 col1 acc hn1
    rw [q2]
    obtain ⟨acc', q3, q4⟩ := ih t n2 row1 (col1 + t.length) _ h4 hn2
    exact ⟨acc', q3, by rw [q4]; simp⟩
theorem lex_mz {e : List Nat} {ps : List (List Nat × List Nat)} (he : e ∈ endsL) (h : mzOk [] ps) : ∃ toks, lexAll (mzT ps ++ e) = .ok toks ∧ toks.map (·.tx) = ps.map fun p => S p.2 := by
  rw [lexAll_lx _ _ (Nat.lt_succ_self _)]
  obtain ⟨acc, h1, h2⟩ := lx_mz he ps [] _ 0 0 [] h (Nat.lt_succ_self _)
  exact ⟨acc, h1, by simpa using h2⟩
theorem mzOk_snoc {g t : List Nat} : ∀ {ps : List (List Nat × List Nat)} {prev : List Nat}, mzOk prev ps → g ∈ gapsL → tokG t → (g = [] → (ps.map (·.2)).getLastD prev ≠ [] → gluT ((ps.map (·.2)).getLastD prev) t = false) → mzOk prev (ps ++ [(g, t)])
  | [], prev, _, h1, h2, h3 => ⟨h1, h2, h3, trivial⟩
  | (g', t') :: ps, prev, h, h1, h2, h3 => by
    obtain ⟨a, b, c, d⟩ := h
    refine ⟨a, b, c, mzOk_snoc d h1 h2 ?_⟩
    have e : ((((g', t') :: ps).map (·.2)).getLastD prev) = (ps.map (·.2)).getLastD t' := by
      cases ps with
      | nil => rfl
      | cons p ps => simp [List.getLastD]
    rw [e] at h3
    exact h3
theorem mzT_snoc {g t : List Nat} {ps : List (List Nat × List Nat)} : mzT (ps ++ [(g, t)]) = mzT ps ++ g ++ t := by simp [mzT]
end Fb
namespace Fb
open PySem PySem.Spec PyProof.Rows L2 PySem.HandSPX SX
def parL (b : Bool) (t : List Nat) : List Nat := if b then 40 :: (t ++ [41]) else t
def pE : Ex → List Nat
  | .num n => TL.numL n
  | .name s => cs s
  | .neg e => 45 :: parL (decide (e.lv < 3)) (pE e)
  | .bin o l r => parL (decide (l.lv < o.lv)) (pE l) ++ 32 :: (cs o.s ++ 32 :: parL (decide (r.lv < o.lv + 1)) (pE r))
  | .queue e => cs "queue" ++ 40 :: (pE e ++ [41])
  | .fin p => cs "finished" ++ 40 :: (cs p ++ [41])
  | .next => cs "next"
def pO (e : Ex) (l : Nat) : List Nat := parL (decide (e.lv < l)) (pE e)
def pT : Tg → List Nat
  | .port p => cs "port" ++ 32 :: cs p
  | .station e => cs "station" ++ 32 :: pE e
def pBk (head : List Nat) (ls : List (List Nat)) (tail : List Nat) : List (List Nat) := if ls = [] then [head ++ 32 :: 123 :: tail] else (head ++ [32, 123]) :: (ls.map (fun l => 32 :: 32 :: l) ++ [tail])
def pElse (ls : List (List Nat)) (b : List (List Nat)) : List (List Nat) := if b = [] then ls else ls.dropLast ++ pBk (ls.getLastD [] ++ 32 :: cs "else") b [125]
def hdRep (e : Ex) : List Nat := cs "repeat" ++ 32 :: pE e
def hdIf (l : Ex) (c : Cp) (r : Ex) : List Nat := cs "if" ++ 32 :: (pE l ++ 32 :: (cs c.s ++ 32 :: pE r))
mutual
def pS : Sm → List (List Nat)
  | .simple k e => [cs k.s ++ 32 :: (pE e ++ [59])]
  | .link a b t => [cs "link" ++ 32 :: (pE a ++ 44 :: 32 :: (pE b ++ 44 :: 32 :: (pT t ++ [59])))]
  | .asg x e => [cs "let" ++ 32 :: (cs x ++ 32 :: 61 :: 32 :: (pE e ++ [59]))]
  | .rep e b => pBk (hdRep e) (pB b) [125]
  | .ite l c r a b => pElse (pBk (hdIf l c r) (pB a) [125]) (pB b)
def pB : List Sm → List (List Nat)
  | [] => []
  | s :: b => pS s ++ pB b
end
theorem pB_append : ∀ a b : List Sm, pB (a ++ b) = pB a ++ pB b
  | [], b => by simp [pB]
  | s :: a, b => by rw [List.cons_append, pB, pB_append a b, pB, List.append_assoc]
theorem pBk_ne (h : List Nat) (ls : List (List Nat)) (t : List Nat) : pBk h ls t ≠ [] := by
  unfold pBk
  by_cases e : ls = []
  · rw [if_pos e]; simp
  · rw [if_neg e]; simp
theorem pS_ne (s : Sm) : pS s ≠ [] := by
  cases s with
  | simple k e => simp [pS]
  | link a b t => simp [pS]
  | asg x e => simp [pS]
  | rep e b => rw [pS]; exact pBk_ne _ _ _
  | ite l c r a b =>
    rw [pS]
    unfold pElse
    by_cases e : pB b = []
    · rw [if_pos e]; exact pBk_ne _ _ _
    · rw [if_neg e]
      intro q
      exact pBk_ne _ _ _ (List.append_eq_nil_iff.mp q).2
theorem pB_nil {b : List Sm} : pB b = [] ↔ b = [] := by
  cases b with
  | nil => simp [pB]
  | cons s b =>
    rw [pB]
    constructor
    · intro q; exact absurd (List.append_eq_nil_iff.mp q).1 (pS_ne s)
    · intro q; cases q
def joinL : List (List Nat) → List Nat
  | [] => []
  | [l] => l
  | l :: m :: ls => l ++ 10 :: joinL (m :: ls)
def pText (b : List Sm) : List Nat := joinL (pB b)
def wdC (c : Nat) : Bool := letN c || digN c
def tkStep (x : List (List Nat) × List Nat) (c : Nat) : List (List Nat) × List Nat :=
  if wdC c then (x.1, x.2 ++ [c])
  else
    let T := if x.2 = [] then x.1 else x.1 ++ [x.2]
    if T ≠ [] ∧ c = 61 ∧ sigE (T.getLastD []) = true then (T.dropLast ++ [T.getLastD [] ++ [61]], [])
    else if c = 32 ∨ c = 10 then (T, []) else (T ++ [[c]], [])
def tkRun (x : List (List Nat) × List Nat) (t : List Nat) : List (List Nat) × List Nat := t.foldl tkStep x
def lawTok (t : List Nat) : List (List Nat) := (tkRun ([], []) (t ++ [32])).1
def flW (w : List Nat) : List (List Nat) := if w = [] then [] else [w]
def tokC (c : Nat) : List (List Nat) := if c = 32 ∨ c = 10 then [] else [[c]]
def brkC (c : Nat) : Prop := wdC c = false ∧ c ≠ 61
def RnT (t : List Nat) (ts : List (List Nat)) : Prop := ∀ T, ∃ ini w, tkRun (T, []) t = (T ++ ini, w) ∧ ini ++ flW w = ts
theorem tkRun_app (x : List (List Nat) × List Nat) (a b : List Nat) : tkRun x (a ++ b) = tkRun (tkRun x a) b := List.foldl_append ..
theorem tk_brk {T : List (List Nat)} {w : List Nat} {c : Nat} (h : brkC c) : tkStep (T, w) c = (T ++ flW w ++ tokC c, []) := by
  unfold tkStep
  rw [h.1, if_neg (by decide)]
  dsimp only
  have e : (if w = [] then T else T ++ [w]) = T ++ flW w := by
    unfold flW
    by_cases hw : w = []
    · rw [if_pos hw, if_pos hw, List.append_nil]
    · rw [if_neg hw, if_neg hw]
  rw [e, if_neg (fun q => h.2 q.2.1)]
  unfold tokC
  by_cases hc : c = 32 ∨ c = 10
  · rw [if_pos hc, if_pos hc, List.append_nil]
  · rw [if_neg hc, if_neg hc]
theorem lastD_snoc {α : Type} (xs : List α) (x d : α) : (xs ++ [x]).getLastD d = x := by rw [List.getLastD_eq_getLast?, List.getLast?_concat]; rfl
theorem RnT.nil : RnT [] [] := fun T => ⟨[], [], by simp [tkRun], rfl⟩
theorem RnT.word {w : List Nat} (h : w.all wdC = true) (hw : w ≠ []) : RnT w [w] := by
  have key : ∀ (w u : List Nat) (T : List (List Nat)), w.all wdC = true → tkRun (T, u) w = (T, u ++ w) := by
    intro w
    induction w with
    | nil => intro u T _; simp [tkRun]
    | cons c w ih =>
      intro u T h
      rw [List.all_cons, Bool.and_eq_true] at h
      show tkRun (tkStep (T, u) c) w = _
      have : tkStep (T, u) c = (T, u ++ [c]) := by unfold tkStep; rw [if_pos h.1]
      rw [this, ih _ _ h.2, List.append_assoc]
      rfl
  intro T
  exact ⟨[], w, by rw [key w [] T h]; simp, by simp [flW, hw]⟩
theorem RnT.cat {a b : List Nat} {ta tb : List (List Nat)} {c : Nat} (ha : RnT a ta) (hc : brkC c) (hb : RnT b tb) : RnT (a ++ c :: b) (ta ++ (tokC c ++ tb)) := by
  intro T
  obtain ⟨i, w, h1, rfl⟩ := ha T
  obtain ⟨j, v, h2, rfl⟩ := hb (T ++ i ++ flW w ++ tokC c)
  refine ⟨i ++ flW w ++ tokC c ++ j, v, ?_, by simp⟩
  rw [tkRun_app, h1]
  show tkRun (tkStep (T ++ i, w) c) b = _
  rw [tk_brk hc, h2]
  simp
theorem RnT.pre {b : List Nat} {tb : List (List Nat)} {c : Nat} (hc : brkC c) (hb : RnT b tb) : RnT (c :: b) (tokC c ++ tb) := by
  simpa using RnT.cat .nil hc hb
theorem RnT.post {a : List Nat} {ta : List (List Nat)} {c : Nat} (ha : RnT a ta) (hc : brkC c) : RnT (a ++ [c]) (ta ++ tokC c) := by
  simpa using RnT.cat ha hc .nil
def lastG (ts : List (List Nat)) : Prop := ∃ i x, ts = i ++ [x] ∧ sigE x = false
theorem RnT.eq {a b : List Nat} {ta tb : List (List Nat)} (ha : RnT a ta) (hl : lastG ta) (hb : RnT b tb) : RnT (a ++ 32 :: 61 :: 32 :: b) (ta ++ [61] :: tb) := by
  intro T
  obtain ⟨i, w, h1, h1'⟩ := ha T
  obtain ⟨y, x, e, hx⟩ := hl
  obtain ⟨j, v, h2, rfl⟩ := hb (T ++ ta ++ [[61]])
  refine ⟨ta ++ [61] :: j, v, ?_, by simp⟩
  rw [tkRun_app, h1]
  show tkRun (tkStep (tkStep (tkStep (T ++ i, w) 32) 61) 32) b = _
  rw [tk_brk (T := T ++ i) (w := w) (c := 32) ⟨by decide, by decide⟩]
  rw [show T ++ i ++ flW w ++ tokC 32 = T ++ ta by rw [← h1']; simp [tokC]]
  have e1 : tkStep (T ++ ta, []) 61 = (T ++ ta ++ [[61]], []) := by
    unfold tkStep
    rw [if_neg (by decide)]
    dsimp only
    rw [if_pos rfl, if_neg]
    · rw [if_neg (by decide)]
    · rintro ⟨_, _, h⟩
      rw [e, ← List.append_assoc, lastD_snoc] at h
      rw [hx] at h
      cases h
  rw [e1, tk_brk (c := 32) ⟨by decide, by decide⟩]
  rw [show T ++ ta ++ [[61]] ++ flW [] ++ tokC 32 = T ++ ta ++ [[61]] by simp [flW, tokC], h2]
  simp
theorem RnT.two {a b : List Nat} {ta tb : List (List Nat)} {c : Nat} (hc : c = 60 ∨ c = 62 ∨ c = 33) (ha : RnT a ta) (hb : RnT b tb) : RnT (a ++ 32 :: c :: 61 :: 32 :: b) (ta ++ [c, 61] :: tb) := by
  intro T
  obtain ⟨i, w, h1, h1'⟩ := ha T
  obtain ⟨j, v, h2, rfl⟩ := hb (T ++ ta ++ [[c, 61]])
  refine ⟨ta ++ [c, 61] :: j, v, ?_, by simp⟩
  have hb : brkC c := by rcases hc with rfl | rfl | rfl <;> exact ⟨by decide, by decide⟩
  have ht : tokC c = [[c]] := by rcases hc with rfl | rfl | rfl <;> decide
  have hs : sigE [c] = true := by rcases hc with rfl | rfl | rfl <;> decide
  rw [tkRun_app, h1]
  show tkRun (tkStep (tkStep (tkStep (tkStep (T ++ i, w) 32) c) 61) 32) b = _
  rw [tk_brk (T := T ++ i) (w := w) (c := 32) ⟨by decide, by decide⟩, tk_brk (T := T ++ i ++ flW w ++ tokC 32) (w := []) hb, ht]
  rw [show T ++ i ++ flW w ++ tokC 32 ++ flW [] ++ [[c]] = T ++ ta ++ [[c]] by rw [← h1']; simp [flW, tokC]]
  have e1 : tkStep (T ++ ta ++ [[c]], []) 61 = (T ++ ta ++ [[c, 61]], []) := by
    unfold tkStep
    rw [if_neg (by decide)]
    dsimp only
    rw [if_pos rfl, if_pos ⟨by simp, rfl, by rw [lastD_snoc]; exact hs⟩]
    rw [List.dropLast_concat, lastD_snoc]
    rfl
  rw [e1, tk_brk (c := 32) ⟨by decide, by decide⟩]
  rw [show T ++ ta ++ [[c, 61]] ++ flW [] ++ tokC 32 = T ++ ta ++ [[c, 61]] by simp [flW, tokC], h2]
  simp
theorem lawTok_of {t : List Nat} {ts : List (List Nat)} (h : RnT t ts) : lawTok t = ts := by
  obtain ⟨i, w, h1, h2⟩ := h []
  unfold lawTok
  rw [tkRun_app, h1]
  show (tkStep ([] ++ i, w) 32).1 = ts
  rw [tk_brk ⟨by decide, by decide⟩]
  simpa [tokC] using h2
end Fb
namespace Fb
open PySem PySem.Spec PyProof.Rows L2 PySem.HandSPX SX
def exL : Ex → Prop
  | .num n => n < 10 ^ 18
  | .name s => s ∉ reservedL ∧ ltW (cs s)
  | .neg e => exL e
  | .bin _ l r => exL l ∧ exL r
  | .queue e => exL e
  | .fin p => ltW (cs p)
  | .next => True
def tgL : Tg → Prop
  | .port p => ltW (cs p)
  | .station e => exL e
mutual
def smL : Sm → Prop
  | .simple _ e => exL e
  | .link a b t => exL a ∧ exL b ∧ tgL t
  | .asg x e => (x ∉ reservedL ∧ ltW (cs x)) ∧ exL e
  | .rep e b => exL e ∧ blL b
  | .ite l _ r a b => exL l ∧ exL r ∧ blL a ∧ blL b
def blL : List Sm → Prop
  | [] => True
  | s :: b => smL s ∧ blL b
end
theorem blL_mem : ∀ {b : List Sm}, blL b ↔ ∀ s ∈ b, smL s
  | [] => by simp [blL]
  | s :: b => by rw [blL, blL_mem]; simp
theorem ltW_fm {z : Str} (h : ltW (cs z)) : fmOf z = .word := by
  obtain ⟨h1, h2, h3⟩ := h
  unfold fmOf
  cases e : cs z with
  | nil => rw [e] at h2; simp at h2
  | cons c r =>
    rw [e] at h1
    have : letN c = true := List.all_eq_true.mp h1 c (List.mem_cons_self ..)
    dsimp only
    rw [if_pos this]
theorem exL_W : ∀ {e : Ex}, exL e → exW e
  | .num _, _ => trivial
  | .name s, h => ⟨ltW_fm h.2, h.1⟩
  | .neg e, h => exL_W (e := e) h
  | .bin _ l r, h => ⟨exL_W h.1, exL_W h.2⟩
  | .queue e, h => exL_W (e := e) h
  | .fin p, h => ltW_fm h
  | .next, _ => trivial
theorem S_cs (z : Str) : S (cs z) = z := by cases z; rfl
theorem cs_S (l : List Nat) : cs (S l) = l := rfl
theorem ltW_wd {t : List Nat} (h : ltW t) : t.all wdC = true ∧ t ≠ [] := by
  refine ⟨List.all_eq_true.mpr fun c hc => ?_, fun e => ?_⟩
  · unfold wdC
    rw [List.all_eq_true.mp h.1 c hc]
    rfl
  · subst e
    exact absurd h.2.1 (by simp)
theorem num_head : ∀ n : Nat, 0 < n → (TL.numL n)[0]? ≠ some 48 := by
  intro n
  induction n using Nat.strongRecOn with
  | _ n ih =>
    intro hn
    by_cases h : n < 10
    · rw [TL.numL_lt h]
      intro e
      have := Option.some.inj e
      omega
    · rw [TL.numL_step (by omega)]
      have hne := TL.numL_ne (n / 10)
      have h0 : 0 < (TL.numL (n / 10)).length := List.length_pos_iff.mpr hne
      rw [List.getElem?_append_left h0]
      exact ih (n / 10) (by omega) (by omega)
theorem num_all (n : Nat) : (TL.numL n).all digN = true := List.all_eq_true.mpr fun c hc => by
  have := TL.numL_digits n c hc
  unfold digN
  rw [Bool.and_eq_true, decide_eq_true_iff, decide_eq_true_iff]
  exact this
theorem num_tok {n : Nat} (h : n < 10 ^ 18) : dgW (TL.numL n) := by
  refine ⟨num_all n, List.length_pos_iff.mpr (TL.numL_ne n), TL.numL_len (by decide) h, ?_⟩
  by_cases h0 : 0 < n
  · exact .inr (num_head n h0)
  · obtain rfl : n = 0 := by omega
    exact .inl (TL.numL_lt (by decide))
theorem num_wd (n : Nat) : (TL.numL n).all wdC = true ∧ TL.numL n ≠ [] := by
  refine ⟨List.all_eq_true.mpr fun c hc => ?_, TL.numL_ne n⟩
  unfold wdC
  rw [List.all_eq_true.mp (num_all n) c hc, Bool.or_true]
abbrev csL (ts : List Str) : List (List Nat) := ts.map cs
theorem brk_sp : brkC 32 := ⟨by decide, by decide⟩
theorem wdS {z : Str} (h : (cs z).all wdC = true ∧ cs z ≠ []) : RnT (cs z) [cs z] := .word h.1 h.2
theorem RnT.to {t : List Nat} {ts us : List (List Nat)} (h : RnT t ts) (e : ts = us) : RnT t us := e ▸ h
theorem parL_rn {b : Bool} {t : List Nat} {ts : List Str} (h : RnT t (csL ts)) : RnT (parL b t) (csL (parT b ts)) := by
  cases b
  · exact h
  · show RnT (40 :: (t ++ [41])) (csL ("(" :: (ts ++ ([")"] : List Str))))
    refine (RnT.pre (c := 40) ⟨by decide, by decide⟩ (h.post (c := 41) ⟨by decide, by decide⟩)).to ?_
    rw [show csL ("(" :: (ts ++ ([")"] : List Str))) = cs "(" :: (csL ts ++ [cs ")"]) by simp, show cs "(" = [40] by decide +kernel, show cs ")" = [41] by decide +kernel]
    rfl
theorem op_rn {a b : List Nat} {ta tb : List (List Nat)} (o : Op) (ha : RnT a ta) (hb : RnT b tb) : RnT (a ++ 32 :: (cs o.s ++ 32 :: b)) (ta ++ cs o.s :: tb) := by
  have wd : (cs o.s).all wdC = true ∧ cs o.s ≠ [] → RnT (a ++ 32 :: (cs o.s ++ 32 :: b)) (ta ++ cs o.s :: tb) := fun h => (ha.cat brk_sp ((wdS h).cat brk_sp hb)).to rfl
  have sg : ∀ c, cs o.s = [c] → brkC c → tokC c = [[c]] → RnT (a ++ 32 :: (cs o.s ++ 32 :: b)) (ta ++ cs o.s :: tb) := by
    intro c e hc ht
    rw [e]
    refine (ha.cat brk_sp (RnT.pre (c := c) hc (RnT.pre brk_sp hb))).to ?_
    rw [ht]
    rfl
  cases o
  · exact sg 43 (by decide +kernel) ⟨by decide, by decide⟩ (by decide)
  · exact sg 45 (by decide +kernel) ⟨by decide, by decide⟩ (by decide)
  · exact sg 42 (by decide +kernel) ⟨by decide, by decide⟩ (by decide)
  · exact wd ⟨by decide +kernel, by decide +kernel⟩
  · exact wd ⟨by decide +kernel, by decide +kernel⟩
theorem pE_rn : ∀ e : Ex, exL e → RnT (pE e) (csL (tkE e)) := by
  intro e
  induction e with
  | num n => exact fun _ => .word (num_wd n).1 (num_wd n).2
  | name s => exact fun h => wdS (ltW_wd h.2)
  | next => exact fun _ => wdS (z := "next") ⟨by decide +kernel, by decide +kernel⟩
  | neg e ih =>
    intro h
    refine (RnT.pre (c := 45) ⟨by decide, by decide⟩ (parL_rn (b := decide (e.lv < 3)) (ih h))).to ?_
    rw [tkE, show csL ("-" :: parT (decide (e.lv < 3)) (tkE e)) = cs "-" :: csL (parT (decide (e.lv < 3)) (tkE e)) from rfl, show cs "-" = [45] by decide +kernel]
    rfl
  | bin o l r il ir =>
    intro h
    refine (op_rn o (parL_rn (b := decide (l.lv < o.lv)) (il h.1)) (parL_rn (b := decide (r.lv < o.lv + 1)) (ir h.2))).to ?_
    rw [tkE]
    simp [csL]
  | queue e ih =>
    intro h
    refine ((wdS (z := "queue") ⟨by decide +kernel, by decide +kernel⟩).cat (c := 40) ⟨by decide, by decide⟩ ((ih h).post (c := 41) ⟨by decide, by decide⟩)).to ?_
    rw [tkE, show csL ("queue" :: "(" :: (tkE e ++ ([")"] : List Str))) = cs "queue" :: cs "(" :: (csL (tkE e) ++ [cs ")"]) by simp, show cs "(" = [40] by decide +kernel, show cs ")" = [41] by decide +kernel]
    rfl
  | fin p =>
    intro h
    refine ((wdS (z := "finished") ⟨by decide +kernel, by decide +kernel⟩).cat (c := 40) ⟨by decide, by decide⟩ ((wdS (ltW_wd h)).post (c := 41) ⟨by decide, by decide⟩)).to ?_
    rw [tkE, show csL (["finished", "(", p, ")"] : List Str) = [cs "finished", cs "(", cs p, cs ")"] from rfl, show cs "(" = [40] by decide +kernel, show cs ")" = [41] by decide +kernel]
    rfl
theorem tok_sg {z : Str} (h : cs z ∈ signsL) : tokG (cs z) := .inr (.inr h)
theorem op_tok (o : Op) : tokG (cs o.s) := by
  cases o
  · exact tok_sg (by decide +kernel)
  · exact tok_sg (by decide +kernel)
  · exact tok_sg (by decide +kernel)
  · exact .inl ⟨by decide +kernel, by decide +kernel, by decide +kernel⟩
  · exact .inl ⟨by decide +kernel, by decide +kernel, by decide +kernel⟩
theorem TkR.toks {f l : Nat} {e : Ex} {ts : List Str} (h : TkR f l e ts) : exL e → ∀ t ∈ ts, tokG (cs t) := by
  have lp : tokG (cs "(") := tok_sg (by decide +kernel)
  have rp : tokG (cs ")") := tok_sg (by decide +kernel)
  induction h with
  | num =>
    intro h t ht
    rw [List.mem_singleton.mp ht]
    exact .inr (.inl (num_tok h))
  | name _ =>
    intro h t ht
    rw [List.mem_singleton.mp ht]
    exact .inl h.2
  | next =>
    intro h t ht
    rw [List.mem_singleton.mp ht]
    exact .inl ⟨by decide +kernel, by decide +kernel, by decide +kernel⟩
  | fin _ =>
    intro h t ht
    simp only [List.mem_cons, List.not_mem_nil, or_false] at ht
    rcases ht with rfl | rfl | rfl | rfl
    · exact .inl ⟨by decide +kernel, by decide +kernel, by decide +kernel⟩
    · exact lp
    · exact .inl h
    · exact rp
  | neg _ ih =>
    intro h t ht
    rcases List.mem_cons.mp ht with rfl | ht
    · exact tok_sg (by decide +kernel)
    · exact ih h t ht
  | par _ ih =>
    intro h t ht
    rcases List.mem_cons.mp ht with rfl | ht
    · exact lp
    · rcases List.mem_append.mp ht with ht | ht
      · exact ih h t ht
      · rw [List.mem_singleton.mp ht]; exact rp
  | queue _ ih =>
    intro h t ht
    rcases List.mem_cons.mp ht with rfl | ht
    · exact .inl ⟨by decide +kernel, by decide +kernel, by decide +kernel⟩
    · rcases List.mem_cons.mp ht with rfl | ht
      · exact lp
      · rcases List.mem_append.mp ht with ht | ht
        · exact ih h t ht
        · rw [List.mem_singleton.mp ht]; exact rp
  | @pro f o l r tl tr _ _ _ i1 i2 =>
    intro h t ht
    rcases List.mem_append.mp ht with ht | ht
    · exact i1 h.1 t ht
    · rcases List.mem_cons.mp ht with rfl | ht
      · exact op_tok o
      · exact i2 h.2 t ht
  | @sum f o l r tl tr _ _ _ i1 i2 =>
    intro h t ht
    rcases List.mem_append.mp ht with ht | ht
    · exact i1 h.1 t ht
    · rcases List.mem_cons.mp ht with rfl | ht
      · exact op_tok o
      · exact i2 h.2 t ht
  | up2 _ ih => exact ih
  | up1 _ ih => exact ih
theorem tkE_tok {e : Ex} (h : exL e) : ∀ t ∈ tkE e, tokG (cs t) := (tkE_one (exL_W h)).toks h
theorem wd_sig {w : List Nat} (h : w.all wdC = true ∧ w ≠ []) : sigE w = false := by
  obtain ⟨h1, h2⟩ := h
  cases w with
  | nil => exact absurd rfl h2
  | cons c r =>
    have hc : wdC c = true := List.all_eq_true.mp h1 c (List.mem_cons_self ..)
    cases q : sigE (c :: r) with
    | false => rfl
    | true =>
      unfold sigE at q
      simp only [Bool.or_eq_true, decide_eq_true_eq, List.cons.injEq] at q
      rcases q with (⟨rfl, _⟩ | ⟨rfl, _⟩) | ⟨rfl, _⟩ <;> exact absurd hc (by decide)
theorem lastG_app {a b : List (List Nat)} (h : lastG b) : lastG (a ++ b) := by
  obtain ⟨i, x, rfl, hx⟩ := h
  exact ⟨a ++ i, x, by rw [List.append_assoc], hx⟩
theorem lastG_cons {a : List Nat} {b : List (List Nat)} (h : lastG b) : lastG (a :: b) := lastG_app (a := [a]) h
theorem parT_last {b : Bool} {ts : List Str} (h : lastG (csL ts)) : lastG (csL (parT b ts)) := by
  cases b
  · exact h
  · show lastG (csL ("(" :: (ts ++ ([")"] : List Str))))
    exact ⟨cs "(" :: csL ts, cs ")", by simp, by decide +kernel⟩
theorem tkE_last : ∀ e : Ex, exL e → lastG (csL (tkE e)) := by
  intro e
  induction e with
  | num n => exact fun _ => ⟨[], _, rfl, wd_sig (num_wd n)⟩
  | name s => exact fun h => ⟨[], _, rfl, wd_sig (ltW_wd h.2)⟩
  | next => exact fun _ => ⟨[], _, rfl, by decide +kernel⟩
  | fin p => exact fun _ => ⟨[cs "finished", cs "(", cs p], cs ")", rfl, by decide +kernel⟩
  | neg e ih => exact fun h => lastG_cons (parT_last (ih h))
  | queue e ih => exact fun h => ⟨cs "queue" :: cs "(" :: csL (tkE e), cs ")", by simp [tkE], by decide +kernel⟩
  | bin o l r il ir =>
    intro h
    rw [tkE, csL, List.map_append, List.map_cons]
    exact lastG_app (lastG_cons (parT_last (ir h.2)))
end Fb
namespace Fb
open PySem PySem.Spec PyProof.Rows L2 PySem.HandSPX SX
inductive RnL : List (List Nat) → List (List Nat) → Prop
  | nil : RnL [] []
  | cons {l : List Nat} {ts : List (List Nat)} {ls : List (List Nat)} {us : List (List Nat)} : RnT l ts → RnL ls us → RnL (l :: ls) (ts ++ us)
theorem RnL.app {a b ta tb : List (List Nat)} (ha : RnL a ta) (hb : RnL b tb) : RnL (a ++ b) (ta ++ tb) := by
  induction ha with
  | nil => exact hb
  | cons h _ ih => rw [List.cons_append, List.append_assoc]; exact .cons h ih
theorem RnL.one {l : List Nat} {ts : List (List Nat)} (h : RnT l ts) : RnL [l] ts := by simpa using RnL.cons h .nil
theorem RnL.to {a ts us : List (List Nat)} (h : RnL a ts) (e : ts = us) : RnL a us := e ▸ h
theorem RnL.ind {a ta : List (List Nat)} (ha : RnL a ta) : RnL (a.map fun l => 32 :: 32 :: l) ta := by
  induction ha with
  | nil => exact .nil
  | cons h _ ih => exact .cons ((RnT.pre brk_sp (RnT.pre brk_sp h)).to rfl) ih
theorem join_rn : ∀ {ls ts : List (List Nat)}, RnL ls ts → RnT (joinL ls) ts
  | [], _, h => by cases h; exact .nil
  | [l], _, h => by
    cases h with
    | cons h1 h2 =>
      cases h2
      rw [List.append_nil]
      exact h1
  | l :: m :: ls, _, h => by
    cases h with
    | cons h1 h2 => exact (h1.cat (c := 10) ⟨by decide, by decide⟩ (join_rn h2)).to rfl
theorem brk_lb : brkC 123 := ⟨by decide, by decide⟩
theorem brk_rb : brkC 125 := ⟨by decide, by decide⟩
theorem cs_lb : cs "{" = [123] := by decide +kernel
theorem cs_rb : cs "}" = [125] := by decide +kernel
theorem cs_sc : cs ";" = [59] := by decide +kernel
theorem cs_cm : cs "," = [44] := by decide +kernel
theorem bk_rn {h : List Nat} {th ls ts : List (List Nat)} (hh : RnT h th) (hl : RnL ls ts) : RnL (pBk h ls [125]) (th ++ [123] :: (ts ++ [[125]])) := by
  unfold pBk
  by_cases e : ls = []
  · subst e
    cases hl
    rw [if_pos rfl]
    refine RnL.one ((hh.cat brk_sp (RnT.pre brk_lb (RnT.pre brk_rb .nil))).to ?_)
    simp [tokC]
  · rw [if_neg e]
    have h1 : RnT (h ++ [32, 123]) (th ++ [[123]]) := (hh.cat brk_sp (RnT.pre brk_lb .nil)).to (by simp [tokC])
    have h2 : RnT [125] [[125]] := (RnT.pre brk_rb .nil).to (by simp [tokC])
    refine (RnL.cons h1 (hl.ind.app (RnL.one h2))).to ?_
    simp
theorem kw_rn {z : Str} {b : List Nat} {tb : List (List Nat)} (h : (cs z).all wdC = true ∧ cs z ≠ []) (hb : RnT b tb) : RnT (cs z ++ 32 :: b) (cs z :: tb) := ((wdS h).cat brk_sp hb).to rfl
theorem cp_rn {a b : List Nat} {ta tb : List (List Nat)} (c : Cp) (ha : RnT a ta) (hl : lastG ta) (hb : RnT b tb) : RnT (a ++ 32 :: (cs c.s ++ 32 :: b)) (ta ++ cs c.s :: tb) := by
  have two : ∀ x, (x = 60 ∨ x = 62 ∨ x = 33) → cs c.s = [x, 61] → RnT (a ++ 32 :: (cs c.s ++ 32 :: b)) (ta ++ cs c.s :: tb) := fun x hx e => by
    rw [e]; exact ha.two hx hb
  have one : ∀ x, brkC x → tokC x = [[x]] → cs c.s = [x] → RnT (a ++ 32 :: (cs c.s ++ 32 :: b)) (ta ++ cs c.s :: tb) := fun x hx ht e => by
    rw [e]
    refine (ha.cat brk_sp (RnT.pre (c := x) hx (RnT.pre brk_sp hb))).to ?_
    rw [ht]
    rfl
  cases c
  · exact one 60 ⟨by decide, by decide⟩ (by decide) (by decide +kernel)
  · exact two 60 (by simp) (by decide +kernel)
  · rw [show cs Cp.eq.s = [61] by decide +kernel]; exact ha.eq hl hb
  · exact two 33 (by simp) (by decide +kernel)
  · exact two 62 (by simp) (by decide +kernel)
  · exact one 62 ⟨by decide, by decide⟩ (by decide) (by decide +kernel)
theorem semi_rn {a : List Nat} {ta : List Str} (ha : RnT a (csL ta)) : RnT (a ++ [59]) (csL (ta ++ ([";"] : List Str))) :=
  (ha.post (c := 59) ⟨by decide, by decide⟩).to (by rw [show csL (ta ++ ([";"] : List Str)) = csL ta ++ [cs ";"] by simp, cs_sc]; rfl)
theorem comma_rn {a b : List Nat} {ta tb : List Str} (ha : RnT a (csL ta)) (hb : RnT b (csL tb)) : RnT (a ++ 44 :: 32 :: b) (csL (ta ++ ("," : Str) :: tb)) :=
  (ha.cat (c := 44) ⟨by decide, by decide⟩ (RnT.pre brk_sp hb)).to (by rw [show csL (ta ++ ("," : Str) :: tb) = csL ta ++ cs "," :: csL tb by simp, cs_cm]; rfl)
theorem kws_wd (k : Kw) : (cs k.s).all wdC = true ∧ cs k.s ≠ [] := by cases k <;> exact ⟨by decide +kernel, by decide +kernel⟩
theorem pT_rn : ∀ {t : Tg}, tgL t → RnT (pT t) (csL (tkT t))
  | .port p, h => kw_rn (z := "port") ⟨by decide +kernel, by decide +kernel⟩ (wdS (ltW_wd h))
  | .station e, h => kw_rn (z := "station") ⟨by decide +kernel, by decide +kernel⟩ (pE_rn e h)
theorem if_rn {l r : Ex} {c : Cp} (h1 : exL l) (h2 : exL r) : RnT (hdIf l c r) (csL ("if" :: (tkE l ++ c.s :: tkE r))) := by
  refine (kw_rn (z := "if") ⟨by decide +kernel, by decide +kernel⟩ (cp_rn c (pE_rn l h1) (tkE_last l h1) (pE_rn r h2))).to ?_
  simp [csL]
theorem else_rn {ls ts bs us : List (List Nat)} (h : RnL ls (ts ++ [[125]])) (hne : ls ≠ []) (hl : ∃ x y, RnL ls.dropLast x ∧ RnT (ls.getLastD []) y ∧ x ++ y = ts ++ [[125]]) (hb : RnL bs us) (hb0 : bs ≠ []) : RnL (pElse ls bs) (ts ++ [125] :: cs "else" :: [123] :: (us ++ [[125]])) := by
  unfold pElse
  rw [if_neg hb0]
  obtain ⟨x, y, h1, h2, h3⟩ := hl
  have h4 : RnT (ls.getLastD [] ++ 32 :: cs "else") (y ++ [cs "else"]) := (h2.cat brk_sp (wdS (z := "else") ⟨by decide +kernel, by decide +kernel⟩)).to rfl
  refine (h1.app (bk_rn h4 hb)).to ?_
  rw [show x ++ (y ++ [cs "else"] ++ [123] :: (us ++ [[125]])) = (x ++ y) ++ cs "else" :: [123] :: (us ++ [[125]]) by simp, h3]
  simp
theorem bk_last {h : List Nat} {th ls ts : List (List Nat)} (hh : RnT h th) (hl : RnL ls ts) : ∃ x y, RnL (pBk h ls [125]).dropLast x ∧ RnT ((pBk h ls [125]).getLastD []) y ∧ x ++ y = th ++ [123] :: (ts ++ [[125]]) := by
  unfold pBk
  by_cases e : ls = []
  · subst e
    cases hl
    rw [if_pos rfl]
    exact ⟨[], _, .nil, (hh.cat brk_sp (RnT.pre brk_lb (RnT.pre brk_rb .nil))), by simp [tokC]⟩
  · rw [if_neg e]
    have h1 : RnT (h ++ [32, 123]) (th ++ [[123]]) := (hh.cat brk_sp (RnT.pre brk_lb .nil)).to (by simp [tokC])
    have h2 : RnT [125] [[125]] := (RnT.pre brk_rb .nil).to (by simp [tokC])
    rw [← List.cons_append, List.dropLast_concat, lastD_snoc]
    exact ⟨_, _, RnL.cons h1 hl.ind, h2, by simp⟩
theorem lines_rn (n : Nat) : (∀ s : Sm, sizeOf s < n → smL s → RnL (pS s) (csL (tkS s))) ∧ ∀ b : List Sm, sizeOf b < n → blL b → RnL (pB b) (csL (tkB b)) := by
  induction n with
  | zero => exact ⟨fun s h => absurd h (by omega), fun s h => absurd h (by omega)⟩
  | succ n ih =>
    obtain ⟨iS, iB⟩ := ih
    have hS : ∀ s : Sm, sizeOf s < n + 1 → smL s → RnL (pS s) (csL (tkS s)) := by
      intro s hn h
      cases s with
      | simple k e =>
        rw [pS, tkS]
        refine RnL.one ?_
        rw [smL] at h
        exact (kw_rn (kws_wd k) (semi_rn (pE_rn e h))).to rfl
      | link a b t =>
        rw [pS, tkS]
        rw [smL] at h
        obtain ⟨h1, h2, h3⟩ := h
        refine RnL.one ?_
        exact (kw_rn (z := "link") ⟨by decide +kernel, by decide +kernel⟩ (comma_rn (pE_rn a h1) (comma_rn (pE_rn b h2) (semi_rn (pT_rn h3))))).to rfl
      | asg x e =>
        rw [pS, tkS]
        rw [smL] at h
        obtain ⟨⟨h1, h2⟩, h3⟩ := h
        have w := ltW_wd h2
        refine RnL.one ?_
        refine (kw_rn (z := "let") ⟨by decide +kernel, by decide +kernel⟩ (RnT.eq (wdS w) ⟨[], _, rfl, wd_sig w⟩ (semi_rn (pE_rn e h3)))).to ?_
        rw [show csL (("let" : Str) :: x :: ("=" : Str) :: (tkE e ++ ([";"] : List Str))) = cs "let" :: cs x :: cs "=" :: csL (tkE e ++ ([";"] : List Str)) from rfl, show cs "=" = [61] by decide +kernel]
        rfl
      | rep e b =>
        rw [pS, tkS]
        rw [smL] at h
        obtain ⟨h1, h2⟩ := h
        have hb := iB b (by simp at hn; omega) h2
        refine (bk_rn (kw_rn (z := "repeat") ⟨by decide +kernel, by decide +kernel⟩ (pE_rn e h1)) hb).to ?_
        rw [show csL (("repeat" : Str) :: (tkE e ++ ("{" : Str) :: (tkB b ++ (["}"] : List Str)))) = cs "repeat" :: (csL (tkE e) ++ cs "{" :: (csL (tkB b) ++ [cs "}"])) by simp, cs_lb, cs_rb]
        rfl
      | ite l c r a b =>
        rw [pS, tkS]
        rw [smL] at h
        obtain ⟨h1, h2, h3, h4⟩ := h
        have ha := iB a (by simp at hn; omega) h3
        have hb := iB b (by simp at hn; omega) h4
        have h5 := bk_rn (if_rn (c := c) h1 h2) ha
        by_cases hb0 : b = []
        · subst hb0
          rw [show pB [] = [] by rw [pB]]
          unfold pElse
          rw [if_pos rfl]
          refine h5.to ?_
          rw [if_pos (by rfl), ← cs_lb, ← cs_rb]
          simp
        · have h6 := bk_last (if_rn (c := c) h1 h2) ha
          have h7 := else_rn (ts := csL ("if" :: (tkE l ++ c.s :: tkE r)) ++ [123] :: csL (tkB a)) (h5.to (by simp)) (pBk_ne _ _ _) (by
            obtain ⟨x, y, q1, q2, q3⟩ := h6
            exact ⟨x, y, q1, q2, by rw [q3]; simp⟩) hb (fun q => hb0 (pB_nil.mp q))
          refine h7.to ?_
          rw [if_neg (by cases b with
            | nil => exact absurd rfl hb0
            | cons s b => simp), ← cs_lb, ← cs_rb]
          simp
    refine ⟨hS, fun b hn h => ?_⟩
    cases b with
    | nil => rw [pB, tkB]; exact .nil
    | cons s b =>
      rw [pB, tkB]
      rw [blL] at h
      rw [csL, List.map_append]
      exact (hS s (by simp at hn; omega) h.1).app (iB b (by simp at hn; omega) h.2)
theorem pText_rn {b : List Sm} (h : blL b) : RnT (pText b) (csL (tkB b)) := join_rn ((lines_rn _).2 b (Nat.lt_succ_self _) h)
theorem lawTok_text {b : List Sm} (h : blL b) : lawTok (pText b) = csL (tkB b) := lawTok_of (pText_rn h)
theorem tkT_tok : ∀ {t : Tg}, tgL t → ∀ z ∈ tkT t, tokG (cs z)
  | .port p, h, z, hz => by
    rcases List.mem_cons.mp hz with rfl | hz
    · exact .inl ⟨by decide +kernel, by decide +kernel, by decide +kernel⟩
    · rw [List.mem_singleton.mp hz]; exact .inl h
  | .station e, h, z, hz => by
    rcases List.mem_cons.mp hz with rfl | hz
    · exact .inl ⟨by decide +kernel, by decide +kernel, by decide +kernel⟩
    · exact tkE_tok h z hz
theorem kw_tok (k : Kw) : tokG (cs k.s) := by cases k <;> exact .inl ⟨by decide +kernel, by decide +kernel, by decide +kernel⟩
theorem cp_tok (c : Cp) : tokG (cs c.s) := by cases c <;> exact tok_sg (by decide +kernel)
def TG (ts : List Str) : Prop := ∀ z ∈ ts, tokG (cs z)
theorem TG.app {a b : List Str} (ha : TG a) (hb : TG b) : TG (a ++ b) := fun z hz => (List.mem_append.mp hz).elim (ha z) (hb z)
theorem TG.cons {a : Str} {b : List Str} (ha : tokG (cs a)) (hb : TG b) : TG (a :: b) := fun z hz => (List.mem_cons.mp hz).elim (fun e => e ▸ ha) (hb z)
theorem TG.one {a : Str} (ha : tokG (cs a)) : TG [a] := fun z hz => by rw [List.mem_singleton.mp hz]; exact ha
theorem TG.nil : TG [] := fun z hz => nomatch hz
theorem wd_tok {z : Str} (h : (cs z).all letN = true ∧ 1 ≤ (cs z).length ∧ (cs z).length ≤ 8) : tokG (cs z) := .inl h
theorem tk_tok (n : Nat) : (∀ s : Sm, sizeOf s < n → smL s → TG (tkS s)) ∧ ∀ b : List Sm, sizeOf b < n → blL b → TG (tkB b) := by
  have lb : tokG (cs "{") := tok_sg (by decide +kernel)
  have rb : tokG (cs "}") := tok_sg (by decide +kernel)
  have sc : tokG (cs ";") := tok_sg (by decide +kernel)
  have cm : tokG (cs ",") := tok_sg (by decide +kernel)
  have eq : tokG (cs "=") := tok_sg (by decide +kernel)
  induction n with
  | zero => exact ⟨fun s h => absurd h (by omega), fun s h => absurd h (by omega)⟩
  | succ n ih =>
    obtain ⟨iS, iB⟩ := ih
    have hS : ∀ s : Sm, sizeOf s < n + 1 → smL s → TG (tkS s) := by
      intro s hn h
      cases s with
      | simple k e =>
        rw [smL] at h
        rw [tkS]
        exact .cons (kw_tok k) (.app (tkE_tok h) (.one sc))
      | link a b t =>
        rw [smL] at h
        rw [tkS]
        exact .cons (wd_tok ⟨by decide +kernel, by decide +kernel, by decide +kernel⟩) (.app (tkE_tok h.1) (.cons cm (.app (tkE_tok h.2.1) (.cons cm (.app (tkT_tok h.2.2) (.one sc))))))
      | asg x e =>
        rw [smL] at h
        rw [tkS]
        exact .cons (wd_tok ⟨by decide +kernel, by decide +kernel, by decide +kernel⟩) (.cons (.inl h.1.2) (.cons eq (.app (tkE_tok h.2) (.one sc))))
      | rep e b =>
        rw [smL] at h
        rw [tkS]
        exact .cons (wd_tok ⟨by decide +kernel, by decide +kernel, by decide +kernel⟩) (.app (tkE_tok h.1) (.cons lb (.app (iB b (by simp at hn; omega) h.2) (.one rb))))
      | ite l c r a b =>
        rw [smL] at h
        obtain ⟨h1, h2, h3, h4⟩ := h
        rw [tkS]
        refine .cons (wd_tok ⟨by decide +kernel, by decide +kernel, by decide +kernel⟩) (.app (tkE_tok h1) (.cons (cp_tok c) (.app (tkE_tok h2) (.cons lb (.app (iB a (by simp at hn; omega) h3) (.cons rb ?_))))))
        split
        · exact .nil
        · exact .cons (wd_tok ⟨by decide +kernel, by decide +kernel, by decide +kernel⟩) (.cons lb (.app (iB b (by simp at hn; omega) h4) (.one rb)))
    refine ⟨hS, fun b hn h => ?_⟩
    cases b with
    | nil => rw [tkB]; exact .nil
    | cons s b =>
      rw [tkB]
      rw [blL] at h
      exact (hS s (by simp at hn; omega) h.1).app (iB b (by simp at hn; omega) h.2)
theorem tkB_tok {b : List Sm} (h : blL b) : TG (tkB b) := (tk_tok _).2 b (Nat.lt_succ_self _) h
end Fb
namespace Fb
open PySem PySem.Spec PyProof.Rows L2 PySem.HandSPX SX
def nm3 : List Str := ["x", "y", "count"]
def pt5 : List Str := ["a", "b", "next", "quay", "port"]
def exN : Ex → Prop
  | .num n => n < 10 ^ 18
  | .name s => s ∈ nm3
  | .neg e => exN e
  | .bin _ l r => exN l ∧ exN r
  | .queue e => exN e
  | .fin p => p ∈ pt5
  | .next => True
def tgN : Tg → Prop
  | .port p => p ∈ pt5
  | .station e => exN e ∧ e.dp ≤ 3
def capB (d : Nat) : Nat := if 1 < d then 5 else 2
def smS : Nat → Sm → Prop
  | _, .simple _ e => exN e ∧ e.dp ≤ 3
  | _, .link a b t => (exN a ∧ a.dp ≤ 3) ∧ (exN b ∧ b.dp ≤ 3) ∧ tgN t
  | _, .asg x e => x ∈ nm3 ∧ exN e ∧ e.dp ≤ 3
  | 0, .rep _ _ => False
  | d + 1, .rep e b => (exN e ∧ e.dp ≤ 3) ∧ b.length ≤ capB d ∧ ∀ s ∈ b, smS d s
  | 0, .ite _ _ _ _ _ => False
  | d + 1, .ite l _ r a b => (exN l ∧ l.dp ≤ 3) ∧ (exN r ∧ r.dp ≤ 3) ∧ (a.length ≤ capB d ∧ ∀ s ∈ a, smS d s) ∧ b.length ≤ capB d ∧ ∀ s ∈ b, smS d s
def blS (d : Nat) (b : List Sm) : Prop := b.length ≤ capB d ∧ ∀ s ∈ b, smS d s
theorem nm_ok {x : Str} (h : x ∈ nm3) : x ∉ reservedL ∧ ltW (cs x) := by
  unfold nm3 at h
  simp only [List.mem_cons, List.not_mem_nil, or_false] at h
  rcases h with rfl | rfl | rfl <;> exact ⟨by decide +kernel, by decide +kernel, by decide +kernel, by decide +kernel⟩
theorem pt_ok {x : Str} (h : x ∈ pt5) : ltW (cs x) := by
  unfold pt5 at h
  simp only [List.mem_cons, List.not_mem_nil, or_false] at h
  rcases h with rfl | rfl | rfl | rfl | rfl <;> exact ⟨by decide +kernel, by decide +kernel, by decide +kernel⟩
theorem exN_L : ∀ {e : Ex}, exN e → exL e
  | .num _, h => h
  | .name s, h => nm_ok h
  | .neg e, h => exN_L (e := e) h
  | .bin _ l r, h => ⟨exN_L h.1, exN_L h.2⟩
  | .queue e, h => exN_L (e := e) h
  | .fin p, h => pt_ok h
  | .next, _ => trivial
theorem tgN_L : ∀ {t : Tg}, tgN t → tgL t
  | .port p, h => pt_ok h
  | .station e, h => exN_L h.1
theorem smS_L : ∀ {d : Nat} {s : Sm}, smS d s → smL s := by
  intro d
  induction d with
  | zero =>
    intro s h
    cases s with
    | simple k e => rw [smL]; exact exN_L h.1
    | link a b t => rw [smL]; exact ⟨exN_L h.1.1, exN_L h.2.1.1, tgN_L h.2.2⟩
    | asg x e => rw [smL]; exact ⟨nm_ok h.1, exN_L h.2.1⟩
    | rep e b => exact h.elim
    | ite l c r a b => exact h.elim
  | succ d ih =>
    intro s h
    cases s with
    | simple k e => rw [smL]; exact exN_L h.1
    | link a b t => rw [smL]; exact ⟨exN_L h.1.1, exN_L h.2.1.1, tgN_L h.2.2⟩
    | asg x e => rw [smL]; exact ⟨nm_ok h.1, exN_L h.2.1⟩
    | rep e b => rw [smL]; exact ⟨exN_L h.1.1, blL_mem.mpr fun s hs => ih (h.2.2 s hs)⟩
    | ite l c r a b => rw [smL]; exact ⟨exN_L h.1.1, exN_L h.2.1.1, blL_mem.mpr fun s hs => ih (h.2.2.1.2 s hs), blL_mem.mpr fun s hs => ih (h.2.2.2.2 s hs)⟩
theorem blS_L {d : Nat} {b : List Sm} (h : blS d b) : blL b := blL_mem.mpr fun s hs => smS_L (h.2 s hs)
theorem smS_W : ∀ {d : Nat} {s : Sm}, smS d s → smW 3 (d + 1) s := by
  have tg : ∀ {t : Tg}, tgN t → tgW 3 t := by
    intro t h
    cases t with
    | port p => exact ltW_fm (pt_ok h)
    | station e => exact ⟨exL_W (exN_L h.1), h.2⟩
  have nm : ∀ {x : Str}, x ∈ nm3 → nmOk x := fun h => ⟨ltW_fm (nm_ok h).2, (nm_ok h).1⟩
  intro d
  induction d with
  | zero =>
    intro s h
    cases s with
    | simple k e => exact ⟨exL_W (exN_L h.1), h.2⟩
    | link a b t => exact ⟨⟨exL_W (exN_L h.1.1), h.1.2⟩, ⟨exL_W (exN_L h.2.1.1), h.2.1.2⟩, tg h.2.2⟩
    | asg x e => exact ⟨nm h.1, exL_W (exN_L h.2.1), h.2.2⟩
    | rep e b => exact h.elim
    | ite l c r a b => exact h.elim
  | succ d ih =>
    intro s h
    cases s with
    | simple k e => exact ⟨exL_W (exN_L h.1), h.2⟩
    | link a b t => exact ⟨⟨exL_W (exN_L h.1.1), h.1.2⟩, ⟨exL_W (exN_L h.2.1.1), h.2.1.2⟩, tg h.2.2⟩
    | asg x e => exact ⟨nm h.1, exL_W (exN_L h.2.1), h.2.2⟩
    | rep e b => exact ⟨⟨exL_W (exN_L h.1.1), h.1.2⟩, fun s hs => ih (h.2.2 s hs)⟩
    | ite l c r a b => exact ⟨⟨exL_W (exN_L h.1.1), h.1.2⟩, ⟨exL_W (exN_L h.2.1.1), h.2.1.2⟩, fun s hs => ih (h.2.2.1.2 s hs), fun s hs => ih (h.2.2.2.2 s hs)⟩
theorem parL_len (b : Bool) (t : List Nat) : (parL b t).length ≤ t.length + 2 := by
  unfold parL
  cases b <;> simp
theorem op_len (o : Op) : (cs o.s).length ≤ 3 := by cases o <;> decide +kernel
theorem cp_len (c : Cp) : (cs c.s).length ≤ 2 := by cases c <;> decide +kernel
theorem kw_len (k : Kw) : (cs k.s).length ≤ 6 := by cases k <;> decide +kernel
theorem pE_len : ∀ e : Ex, exL e → (pE e).length + 9 ≤ 27 * 2 ^ e.dp := by
  intro e
  induction e with
  | num n =>
    intro h
    have : (TL.numL n).length ≤ 18 := TL.numL_len (by decide) h
    show (TL.numL n).length + 9 ≤ 27 * 2 ^ 0
    omega
  | name s =>
    intro h
    have := h.2.2.2
    show (cs s).length + 9 ≤ 27 * 2 ^ 0
    omega
  | next => exact fun _ => by decide +kernel
  | fin p =>
    intro h
    have := h.2.2
    have e1 : (cs "finished").length = 8 := by decide +kernel
    show (cs "finished" ++ 40 :: (cs p ++ [41])).length + 9 ≤ 27 * 2 ^ 0
    rw [List.length_append, e1]
    simp only [List.length_cons, List.length_append, List.length_nil]
    omega
  | neg e ih =>
    intro h
    have := ih h
    have h2 := parL_len (decide (e.lv < 3)) (pE e)
    show (45 :: parL (decide (e.lv < 3)) (pE e)).length + 9 ≤ 27 * 2 ^ (e.dp + 1)
    rw [List.length_cons, Nat.pow_succ]
    omega
  | queue e ih =>
    intro h
    have := ih h
    have e1 : (cs "queue").length = 5 := by decide +kernel
    show (cs "queue" ++ 40 :: (pE e ++ [41])).length + 9 ≤ 27 * 2 ^ (e.dp + 1)
    rw [List.length_append, e1, Nat.pow_succ]
    simp only [List.length_cons, List.length_append, List.length_nil]
    omega
  | bin o l r il ir =>
    intro h
    have h1 := il h.1
    have h2 := ir h.2
    have h3 := parL_len (decide (l.lv < o.lv)) (pE l)
    have h4 := parL_len (decide (r.lv < o.lv + 1)) (pE r)
    have h5 := op_len o
    have p1 : 2 ^ l.dp ≤ 2 ^ (max l.dp r.dp) := Nat.pow_le_pow_right (by decide) (by omega)
    have p2 : 2 ^ r.dp ≤ 2 ^ (max l.dp r.dp) := Nat.pow_le_pow_right (by decide) (by omega)
    show (parL (decide (l.lv < o.lv)) (pE l) ++ 32 :: (cs o.s ++ 32 :: parL (decide (r.lv < o.lv + 1)) (pE r))).length + 9 ≤ 27 * 2 ^ (max l.dp r.dp + 1)
    rw [Nat.pow_succ]
    simp only [List.length_cons, List.length_append]
    omega
theorem pE_len3 {e : Ex} (h : exN e) (hd : e.dp ≤ 3) : (pE e).length ≤ 207 := by
  have := pE_len e (exN_L h)
  have : 2 ^ e.dp ≤ 2 ^ 3 := Nat.pow_le_pow_right (by decide) hd
  omega
def LnB (n m : Nat) (ls : List (List Nat)) : Prop := ls.length ≤ n ∧ ∀ l ∈ ls, l.length ≤ m
theorem LnB.app {n n' m : Nat} {a b : List (List Nat)} (ha : LnB n m a) (hb : LnB n' m b) : LnB (n + n') m (a ++ b) := ⟨by rw [List.length_append]; have := ha.1; have := hb.1; omega, fun l hl => (List.mem_append.mp hl).elim (ha.2 l) (hb.2 l)⟩
theorem LnB.mono {n n' m m' : Nat} {a : List (List Nat)} (ha : LnB n m a) (h : n ≤ n') (h' : m ≤ m') : LnB n' m' a := ⟨Nat.le_trans ha.1 h, fun l hl => Nat.le_trans (ha.2 l hl) h'⟩
theorem LnB.one {m : Nat} {l : List Nat} (h : l.length ≤ m) : LnB 1 m [l] := ⟨by simp, fun x hx => by rw [List.mem_singleton.mp hx]; exact h⟩
theorem LnB.bk {n m : Nat} {h : List Nat} {ls : List (List Nat)} (hl : LnB n m ls) (hh : h.length + 3 ≤ m + 2) : LnB (n + 2) (m + 2) (pBk h ls [125]) := by
  unfold pBk
  by_cases e : ls = []
  · rw [if_pos e]
    exact (LnB.one (by simp; omega)).mono (by omega) (Nat.le_refl _)
  · rw [if_neg e]
    refine ⟨?_, fun l hl' => ?_⟩
    · simp only [List.length_cons, List.length_append, List.length_map, List.length_nil]
      have := hl.1
      omega
    · rcases List.mem_cons.mp hl' with rfl | hl'
      · simp; omega
      · rcases List.mem_append.mp hl' with hl' | hl'
        · obtain ⟨l', h1, rfl⟩ := List.mem_map.mp hl'
          have := hl.2 l' h1
          simp; omega
        · rw [List.mem_singleton.mp hl']; simp
theorem pBk_last (h : List Nat) (ls : List (List Nat)) : ((pBk h ls [125]).getLastD []).length ≤ h.length + 3 := by
  unfold pBk
  by_cases e : ls = []
  · rw [if_pos e]; simp
  · rw [if_neg e, ← List.cons_append, lastD_snoc]; simp
def lnN : Nat → Nat
  | 0 => 1
  | d + 1 => 3 + 2 * (capB d * lnN d)
theorem lnN_pos (d : Nat) : 1 ≤ lnN d := by cases d <;> simp [lnN]; omega
theorem LnB.flat {n m : Nat} {b : List Sm} (h : ∀ s ∈ b, LnB n m (pS s)) : LnB (b.length * n) m (pB b) := by
  induction b with
  | nil => rw [pB]; exact ⟨by simp, fun l hl => nomatch hl⟩
  | cons s b ih =>
    rw [pB]
    refine ((h s (List.mem_cons_self ..)).app (ih fun s hs => h s (List.mem_cons_of_mem _ hs))).mono ?_ (Nat.le_refl _)
    rw [List.length_cons, Nat.succ_mul]
    omega
theorem pS_len : ∀ {d : Nat} {s : Sm}, smS d s → LnB (lnN d) (660 + 2 * d) (pS s) := by
  have flat : ∀ {d : Nat} {s : Sm}, (match s with | .simple _ _ => True | .link _ _ _ => True | .asg _ _ => True | _ => False) → smS d s → LnB 1 660 (pS s) := by
    intro d s hs h
    cases s with
    | simple k e =>
      have h : exN e ∧ e.dp ≤ 3 := by cases d <;> exact h
      have h1 := pE_len3 h.1 h.2
      have h2 := kw_len k
      rw [pS]
      exact .one (by simp only [List.length_append, List.length_cons, List.length_nil]; omega)
    | link a b t =>
      have h : (exN a ∧ a.dp ≤ 3) ∧ (exN b ∧ b.dp ≤ 3) ∧ tgN t := by cases d <;> exact h
      have h1 := pE_len3 h.1.1 h.1.2
      have h2 := pE_len3 h.2.1.1 h.2.1.2
      have e1 : (cs "link").length = 4 := by decide +kernel
      have h3 : (pT t).length ≤ 215 := by
        cases t with
        | port p =>
          have := (pt_ok h.2.2).2.2
          have e2 : (cs "port").length = 4 := by decide +kernel
          show (cs "port" ++ 32 :: cs p).length ≤ 215
          rw [List.length_append, e2, List.length_cons]
          omega
        | station e =>
          have := pE_len3 h.2.2.1 h.2.2.2
          have e2 : (cs "station").length = 7 := by decide +kernel
          show (cs "station" ++ 32 :: pE e).length ≤ 215
          rw [List.length_append, e2, List.length_cons]
          omega
      rw [pS]
      refine .one ?_
      rw [List.length_append, e1]
      simp only [List.length_append, List.length_cons, List.length_nil]
      omega
    | asg x e =>
      have h : x ∈ nm3 ∧ exN e ∧ e.dp ≤ 3 := by cases d <;> exact h
      have h1 := pE_len3 h.2.1 h.2.2
      have h2 := (nm_ok h.1).2.2.2
      have e1 : (cs "let").length = 3 := by decide +kernel
      rw [pS]
      refine .one ?_
      rw [List.length_append, e1]
      simp only [List.length_append, List.length_cons, List.length_nil]
      omega
    | rep e b => exact hs.elim
    | ite l c r a b => exact hs.elim
  intro d
  induction d with
  | zero =>
    intro s h
    cases s with
    | rep e b => exact h.elim
    | ite l c r a b => exact h.elim
    | simple k e => exact (flat trivial h).mono (Nat.le_refl _) (by omega)
    | link a b t => exact (flat trivial h).mono (Nat.le_refl _) (by omega)
    | asg x e => exact (flat trivial h).mono (Nat.le_refl _) (by omega)
  | succ d ih =>
    intro s h
    have bl : ∀ {b : List Sm}, b.length ≤ capB d → (∀ s ∈ b, smS d s) → LnB (capB d * lnN d) (660 + 2 * d) (pB b) := fun h1 h2 => (LnB.flat fun s hs => ih (h2 s hs)).mono (Nat.mul_le_mul_right _ h1) (Nat.le_refl _)
    cases s with
    | simple k e => exact (flat trivial h).mono (lnN_pos _) (by omega)
    | link a b t => exact (flat trivial h).mono (lnN_pos _) (by omega)
    | asg x e => exact (flat trivial h).mono (lnN_pos _) (by omega)
    | rep e b =>
      obtain ⟨h1, h2, h3⟩ := h
      have h4 := pE_len3 h1.1 h1.2
      have e1 : (cs "repeat").length = 6 := by decide +kernel
      rw [pS]
      refine (LnB.bk (bl h2 h3) ?_).mono (by rw [lnN]; omega) (by omega)
      unfold hdRep
      rw [List.length_append, e1, List.length_cons]
      omega
    | ite l c r a b =>
      obtain ⟨h1, h2, ⟨h3, h4⟩, h5, h6⟩ := h
      have k1 := pE_len3 h1.1 h1.2
      have k2 := pE_len3 h2.1 h2.2
      have k3 := cp_len c
      have e1 : (cs "if").length = 2 := by decide +kernel
      have hh : (hdIf l c r).length ≤ 600 := by
        unfold hdIf
        rw [List.length_append, e1]
        simp only [List.length_append, List.length_cons]
        omega
      have A := LnB.bk (h := hdIf l c r) (bl h3 h4) (by omega)
      rw [pS]
      unfold pElse
      by_cases hb : pB b = []
      · rw [if_pos hb]
        exact A.mono (by rw [lnN]; omega) (by omega)
      · rw [if_neg hb]
        have e2 : (cs "else").length = 4 := by decide +kernel
        have hl := pBk_last (hdIf l c r) (pB a)
        have Bb := LnB.bk (h := (pBk (hdIf l c r) (pB a) [125]).getLastD [] ++ 32 :: cs "else") (bl h5 h6) (by rw [List.length_append, List.length_cons, e2]; omega)
        have A' : LnB (capB d * lnN d + 1) (660 + 2 * d + 2) (pBk (hdIf l c r) (pB a) [125]).dropLast := ⟨by rw [List.length_dropLast]; have := A.1; omega, fun x hx => A.2 x ((List.dropLast_sublist _).subset hx)⟩
        exact (A'.app Bb).mono (by rw [lnN]; omega) (by omega)
theorem pB_len {d : Nat} {b : List Sm} (h : blS d b) : LnB (capB d * lnN d) (660 + 2 * d) (pB b) := (LnB.flat fun s hs => pS_len (h.2 s hs)).mono (Nat.mul_le_mul_right _ h.1) (Nat.le_refl _)
theorem pB_len3 {d : Nat} {b : List Sm} (hd : d ≤ 3) (h : blS d b) : LnB 1565 666 (pB b) := by
  refine (pB_len h).mono ?_ (by omega)
  rcases (show d = 0 ∨ d = 1 ∨ d = 2 ∨ d = 3 by omega) with rfl | rfl | rfl | rfl <;> decide
theorem join_len : ∀ {ls : List (List Nat)} {n m : Nat}, LnB n m ls → (joinL ls).length ≤ n * (m + 1)
  | [], n, m, _ => by simp [joinL]
  | [l], n, m, h => by
    have h1 : 1 ≤ n := h.1
    have h2 := h.2 l (by simp)
    show l.length ≤ n * (m + 1)
    have := Nat.mul_le_mul_right (m + 1) h1
    omega
  | l :: k :: ls, n, m, h => by
    have h1 := h.1
    simp only [List.length_cons] at h1
    obtain ⟨n, rfl⟩ : ∃ q, n = q + 1 := ⟨n - 1, by omega⟩
    have h2 := h.2 l (by simp)
    have h3 := join_len (ls := k :: ls) (n := n) (m := m) ⟨by simp only [List.length_cons]; omega, fun x hx => h.2 x (List.mem_cons_of_mem _ hx)⟩
    show (l ++ 10 :: joinL (k :: ls)).length ≤ (n + 1) * (m + 1)
    rw [List.length_append, List.length_cons, Nat.succ_mul]
    omega
theorem pText_len {d : Nat} {b : List Sm} (hd : d ≤ 3) (h : blS d b) : (pText b).length ≤ 1050000 := by
  have := join_len (pB_len3 hd h)
  unfold pText
  omega
end Fb
namespace Fb
open PySem PySem.Spec PyProof.Rows L2
theorem i_joinI {c : TT} {t u : TS} {nx bk ct : L2.St → Hp → Prop} {rt : VK} {σ : L2.St} {H : Hp} (R : L2.St → Hp → Prop) (h1 : ∀ N : L2.St → Hp → Prop, (∀ σ' H', R σ' H' → N σ' H') → tIfS c t u ⟨N, rt, bk, ct⟩ σ H) (h2 : ∀ σ' H', R σ' H' → nx σ' H') : tIfS c t u ⟨nx, rt, bk, ct⟩ σ H := h1 nx h2
theorem i_join {t u : TS} {nx bk ct : L2.St → Hp → Prop} {rt : VK} {σ : L2.St} {H : Hp} (R : L2.St → Hp → Prop) (h1 : ∀ N : L2.St → Hp → Prop, (∀ σ' H', R σ' H' → N σ' H') → t ⟨N, rt, bk, ct⟩ σ H) (h2 : ∀ σ' H', R σ' H' → u ⟨nx, rt, bk, ct⟩ σ' H') : tSeq t u ⟨nx, rt, bk, ct⟩ σ H := h1 _ h2
end Fb
namespace Fb
open PySem PySem.Spec PyProof.Rows L2 PySem.HandSPX SX
theorem ifF {b : Bool} {N M : Prop} (e : b = false) (m : M) : if b = true then N else M := by rw [e]; exact m
theorem ifT {b : Bool} {N M : Prop} (e : b = true) (m : N) : if b = true then N else M := by rw [e]; exact m
theorem szB {n : Nat} (h : n ≤ 16000000) : n ≤ sizeLine := Nat.le_trans h (by decide)
theorem szBlt {n : Nat} (h : n < 16000000) : n < sizeLine := Nat.lt_of_lt_of_le h (by decide)
theorem i_tyS {K : PySem.W.Frag} {H : Hp} {z : Str} {N : Prop} (n : N) : tyV K "str" (.str z) H ∧ N := ⟨rfl, n⟩
theorem S_decB {a b : List Nat} : decide (S a = S b) = decide (a = b) := by
  by_cases h : a = b
  · rw [decide_eq_true h, h, decide_eq_true rfl]
  · rw [decide_eq_false h, decide_eq_false fun e => h (S_inj e)]
section
variable {K : PySem.W.Frag} {H : Hp} {Q : VK}
theorem i_lenSB {l : List Nat} (h : l.length ≤ 16000000) (q : Q (.int (l.length : Int)) H) : rLen K [.str (S l)] H Q := i_lenS (by rw [S_len]; exact szB h) (by rw [S_len]; exact q)
theorem i_ixSB {l : List Nat} {j c : Nat} (h : l.length ≤ 16000000) (e : l[j]? = some c) (q : Q (.str (S [c])) H) : rIxS (.str (S l)) (.int (j : Nat)) H Q :=
  ⟨S l, (j : Nat), c, rfl, rfl, by rw [S_len]; exact szB h, atI_nat (by simpa using e), q⟩
theorem cutS_mid {l : List Nat} {a b : Nat} (h : b ≤ l.length) : cutS (S l) (some (a : Int)) (some (b : Int)) = S ((l.drop a).take (b - a)) := by
  unfold cutS
  rw [S_len, HT.sIx_nat, HT.sIx_nat, Nat.min_eq_left h]
  by_cases ha : a ≤ l.length
  · rw [Nat.min_eq_left ha]
  · rw [Nat.min_eq_right (by omega), List.drop_of_length_le (by simp), List.drop_of_length_le (by omega)]
    simp
theorem cutS_midA {l : List Nat} {a b : Nat} : cutS (S l) (some (a : Int)) (some (b : Int)) = S ((l.drop a).take (b - a)) := by
  by_cases h : b ≤ l.length
  · exact cutS_mid h
  · unfold cutS
    rw [S_len, HT.sIx_nat, HT.sIx_nat, Nat.min_eq_right (by omega)]
    by_cases ha : a ≤ l.length
    · rw [Nat.min_eq_left ha]
      show S ((l.drop a).take (l.length - a)) = _
      rw [List.take_of_length_le (by rw [List.length_drop]; omega), List.take_of_length_le (by rw [List.length_drop]; omega)]
    · rw [Nat.min_eq_right (by omega), List.drop_of_length_le (i := a) (by omega), List.drop_of_length_le (by simp)]
      simp
theorem i_slMid {r : V → Option Int → Option Int → Hp → VK → Prop} {te tl th : TE} {σ : L2.St} (h : te σ H fun x H1 => tl σ H1 fun y H2 => ∃ i : Int, y = .int i ∧ th σ H2 fun z H3 => ∃ j : Int, z = .int j ∧ r x (some i) (some j) H3 Q) : tSl r te (tPart tl) (tPart th) σ H Q := h
theorem i_slToB {r : V → Option Int → Option Int → Hp → VK → Prop} {te th : TE} {σ : L2.St} (h : te σ H fun x H1 => th σ H1 fun z H3 => ∃ j : Int, z = .int j ∧ r x none (some j) H3 Q) : tSl r te tNoPart (tPart th) σ H Q := h
theorem i_slFrB {r : V → Option Int → Option Int → Hp → VK → Prop} {te tl : TE} {σ : L2.St} (h : te σ H fun x H1 => tl σ H1 fun z H3 => ∃ j : Int, z = .int j ∧ r x (some j) none H3 Q) : tSl r te (tPart tl) tNoPart σ H Q := h
theorem inV_strs {z : Str} {l : List Str} : inV (V.str z) (l.map V.str) = decide (z ∈ l) := by
  unfold inV
  rw [List.any_map, Bool.eq_iff_iff, List.any_eq_true, decide_eq_true_iff]
  constructor
  · rintro ⟨y, hy, h⟩
    have h : decide (y = z) = true := h
    rw [← of_decide_eq_true h]; exact hy
  · intro h
    exact ⟨z, h, (decide_eq_true rfl : decide (z = z) = true)⟩
theorem i_inTs {a : Addr} {z : Str} {l : List Str} {neg : Bool} (h : SqT K H a (l.map V.str)) (q : Q (.bl (if neg = true then !decide (z ∈ l) else decide (z ∈ l))) H) : rIn K neg (.str z) (.ref a) H Q :=
  ⟨a, l.map V.str, rfl, .inr h, rfl, by rw [List.all_map]; exact List.all_eq_true.mpr fun _ _ => rfl, by rw [inV_strs]; exact q⟩
def rEqM (K : PySem.W.Frag) : R2 := fun x y H Q => ∃ d e, Dp K H x d ∧ Dp K H y e ∧ d.canLay0 = true ∧ e.canLay0 = true ∧ min d.depth e.depth ≤ 190 ∧ Q (.bl (d.eqv e)) H
def rNeM (K : PySem.W.Frag) : R2 := fun x y H Q => ∃ d e, Dp K H x d ∧ Dp K H y e ∧ d.canLay0 = true ∧ e.canLay0 = true ∧ min d.depth e.depth ≤ 190 ∧ Q (.bl (!d.eqv e)) H
theorem k_eqM {X : Cx} {K : PySem.W.Frag} (hK : X.K = K) (hu : X.A.units + 200 < cLine) : OpR X (compareOp .Eq) (rEqM K) := by
  subst hK
  intro pins s σ H x y v u Q I rx ry h
  obtain ⟨d, e, hd, he, sd, se, hm, q⟩ := h
  obtain ⟨as, r1⟩ := Dp.reads I d x v hd rx
  obtain ⟨bs, r2⟩ := Dp.reads I e y u he ry
  exact SeqAt.compareEq_reads r1 r2 sd se (by omega) ⟨.bl _, H, I, rfl, q⟩
theorem k_neM {X : Cx} {K : PySem.W.Frag} (hK : X.K = K) (hu : X.A.units + 200 < cLine) : OpR X (compareOp .NotEq) (rNeM K) := by
  subst hK
  intro pins s σ H x y v u Q I rx ry h
  obtain ⟨d, e, hd, he, sd, se, hm, q⟩ := h
  obtain ⟨as, r1⟩ := Dp.reads I d x v hd rx
  obtain ⟨bs, r2⟩ := Dp.reads I e y u he ry
  exact SeqAt.compareNe_reads r1 r2 sd se (by omega) ⟨.bl _, H, I, rfl, q⟩
theorem hu200_of {k : Nat} {A : Around} (r : Room k A) : A.units + 200 < cLine := by have := r.un; omega
theorem i_addB {a b : List Nat} {N : Str → Str → Prop} (hz : a.length + b.length ≤ 16000000) (q : N (S a) (S b)) : ∃ i j, V.str (S a) = .str i ∧ V.str (S b) = .str j ∧ i.length + j.length ≤ sizeLine ∧ N i j :=
  ⟨_, _, rfl, rfl, szB (by rw [S_len, S_len]; exact hz), q⟩
theorem S_app (a b : List Nat) : S a ++ S b = S (a ++ b) := by
  show Str.mk (a.toArray ++ b.toArray) = _
  simp
end
section
variable {K : PySem.W.Frag} {B : List Addr} {H0 H : Hp} {L : List (Addr × HO)} {P : List (Hp → Prop)} {Q : VK}
theorem st_newLB (s : Stt B H0 L P H) {xs : List V} {R : Addr → Prop} (hz : xs.length ≤ 16000000) (k : ∀ p, H p = none → Stt B H0 (L ++ [(p, .lst xs)]) P (upd H p (.lst xs)) → R p) : xs.length ≤ sizeLine ∧ ∀ p, H p = none → R p :=
  ⟨szB hz, fun p hp => k p hp (s.new hp trivial)⟩
theorem st_appendB (s : Stt B H0 L P H) (i : Nat) {l : Addr} {xs : List V} {y : V} (e : L[i]? = some (l, .lst xs)) (hz : xs.length < 16000000) (k : ∀ H', Stt B H0 (L.set i (l, .lst (xs ++ [y]))) P H' → Q .non H') : rAppend (.ref l) [y] H Q :=
  ⟨l, xs, y, rfl, rfl, s.at i e, szBlt hz, k _ (s.set i e trivial)⟩
theorem st_extendB (s : Stt B H0 L P H) (i : Nat) {l b : Addr} {xs zs : List V} (e : L[i]? = some (l, .lst xs)) (h : H b = some (.lst zs)) (hz : xs.length + zs.length ≤ 16000000) (k : ∀ H', Stt B H0 (L.set i (l, .lst (xs ++ zs))) P H' → Q .non H') : rExtend (.ref l) [.ref b] H Q :=
  ⟨l, b, xs, zs, rfl, rfl, s.at i e, h, szB hz, k _ (s.set i e trivial)⟩
theorem st_catB (s : Stt B H0 L P H) {l b : Addr} {xs zs : List V} (h1 : H l = some (.lst xs)) (h2 : H b = some (.lst zs)) (hz : xs.length + zs.length ≤ 16000000) (k : ∀ p H', H p = none → Same H H' → Stt B H0 (L ++ [(p, .lst (xs ++ zs))]) P H' → Q (.ref p) H') : rCat (.ref l) (.ref b) H Q :=
  ⟨l, b, xs, zs, rfl, rfl, h1, h2, szB hz, st_new s trivial k⟩
end
end Fb
namespace Fb
open PySem PySem.Spec PyProof.Rows L2 PySem.HandSPX
section
end
section
variable {X : Cx} {k j : Nat} {x : Str} {sp : Sp} {p pos : Pos} {e : Expr} {es : List Expr} {t : TA} {E : XK}
theorem pcX (c : Cal X.prog X.w X.K X.mg X.base k x sp) (hr : Room j X.A) (hk : k ≤ j) (tk : Takes X (fun cls d _ H => E cls d H)) (ha : PA X (e :: es) t) (hg : Gl X x := by rfl)
    (hdb : (x == ("__debug__" : Str)) = false := by decide) (he : starEach (e :: es) X.env = (false, eval e X.env) :: starEach es X.env := by rfl) (hpl : (backTo pos (starEach es X.env)).any (·.1) = false := by rfl) :
    PE X (.Call (.Name x p) (e :: es) [] pos) (tCall sp [] E t) := by
  obtain ⟨f, fd, ps, F, hm, kp, b⟩ := c.ex
  exact pe_call F (hr.mono hk) hg hm kp b .nil (passes_call tk fun _ _ _ _ h => h) ha hdb he hpl
end
section
end
end Fb
namespace Fb
open PySem PySem.Spec PyProof.Rows L2 PySem.HandSPX SX
def tkF : List Str := ["form", "text", "place"]
abbrev tokFs (t : Tok) (pl : Addr) : List (Str × V) := [("form", .str (fmOf t.tx).s), ("text", .str t.tx), ("place", .ref pl)]
def TokAt (CT : Addr) (H : Hp) (a : Addr) (t : Tok) : Prop := ∃ dx pl, H a = some (.ins CT dx (tokFs t pl)) ∧ H pl = some (.tup [.int (t.row : Nat), .int (t.col : Nat)])
theorem TokAt.same {CT : Addr} {H H' : Hp} {a : Addr} {t : Tok} (e : Same H H') (h : TokAt CT H a t) : TokAt CT H' a t := let ⟨dx, pl, h1, h2⟩ := h; ⟨dx, pl, e _ _ h1, e _ _ h2⟩
theorem TokAt.ex {CT : Addr} {H H' : Hp} {a : Addr} {t : Tok} {B : List Addr} (e : ExB B H H') (hB : ∀ b ∈ B, (∀ xs, H b ≠ some (.tup xs)) ∧ ∀ dx t pl, H b ≠ some (.ins CT dx (tokFs t pl))) (h : TokAt CT H a t) : TokAt CT H' a t := by
  obtain ⟨dx, pl, h1, h2⟩ := h
  exact ⟨dx, pl, e _ _ (fun hb => (hB _ hb).2 _ _ _ h1) h1, e _ _ (fun hb => (hB _ hb).1 _ h2) h2⟩
structure TksAt (CT : Addr) (H : Hp) (as : List Addr) (toks : List Tok) : Prop where
  n : as.length = toks.length
  all : ∀ (i : Nat) (a : Addr) (t : Tok), as[i]? = some a → toks[i]? = some t → TokAt CT H a t
theorem TksAt.nil {CT : Addr} {H : Hp} : TksAt CT H [] [] := ⟨rfl, fun i a t h => by simp at h⟩
theorem TksAt.same {CT : Addr} {H H' : Hp} {as : List Addr} {toks : List Tok} (e : Same H H') (h : TksAt CT H as toks) : TksAt CT H' as toks := ⟨h.n, fun i a t h1 h2 => (h.all i a t h1 h2).same e⟩
theorem TksAt.ex {CT : Addr} {H H' : Hp} {as : List Addr} {toks : List Tok} {B : List Addr} (e : ExB B H H') (hB : ∀ b ∈ B, (∀ xs, H b ≠ some (.tup xs)) ∧ ∀ dx t pl, H b ≠ some (.ins CT dx (tokFs t pl))) (h : TksAt CT H as toks) : TksAt CT H' as toks := ⟨h.n, fun i a t h1 h2 => (h.all i a t h1 h2).ex e hB⟩
theorem TksAt.snoc {CT : Addr} {H : Hp} {as : List Addr} {toks : List Tok} {a : Addr} {t : Tok} (h : TksAt CT H as toks) (k : TokAt CT H a t) : TksAt CT H (as ++ [a]) (toks ++ [t]) := by
  refine ⟨by rw [List.length_append, List.length_append, h.n]; rfl, fun i b u h1 h2 => ?_⟩
  by_cases hi : i < as.length
  · rw [List.getElem?_append_left hi] at h1
    rw [List.getElem?_append_left (by rw [← h.n]; exact hi)] at h2
    exact h.all i b u h1 h2
  · rw [List.getElem?_append_right (by omega)] at h1
    rw [List.getElem?_append_right (by have := h.n; omega), ← h.n] at h2
    cases q : i - as.length with
    | zero =>
      rw [q] at h1 h2
      cases h1
      cases h2
      exact k
    | succ m => rw [q] at h1; simp at h1
theorem exB_upd {H : Hp} {l : Addr} {o : HO} : ExB [l] H (upd H l o) := fun b o' hb h => by
  rw [upd_ne (by simpa using hb)]
  exact h
theorem atI_lastS {α : Type} {xs : List α} {x : α} : atI (xs ++ [x]) (-1) = some x := by
  unfold atI ixN
  rw [if_neg (by decide)]
  have h : -((xs ++ [x]).length : Int) ≤ -1 := by simp only [List.length_append, List.length_cons, List.length_nil]; omega
  first
    | rw [if_pos h]
      rw [show ((-1 : Int) + ((xs ++ [x]).length : Int)).toNat = xs.length by simp only [List.length_append, List.length_cons, List.length_nil]; omega]
      simp
    | simp
theorem lst_no {CT : Addr} {H : Hp} {l : Addr} {xs : List V} (h : H l = some (.lst xs)) : ∀ b ∈ [l], (∀ xs, H b ≠ some (.tup xs)) ∧ ∀ dx t pl, H b ≠ some (.ins CT dx (tokFs t pl)) := fun b hb => by
  rw [List.mem_singleton.mp hb, h]
  exact ⟨fun xs e => (by cases e), fun dx t pl e => (by cases e)⟩
def spTokI (CT : Addr) : Sp := fun vs H Q _ => ∃ (n dn : Addr) (f x p : V), vs = [.ref n, f, x, p] ∧ H n = some (.ins CT dn []) ∧ ∀ H', ExB [n] H H' → H' n = some (.ins CT dn [("form", f), ("text", x), ("place", p)]) → Q .non H'
def spEnd : Sp := fun vs H Q _ => ∃ (l : List Nat) (c : Nat) (z : Str) (p : Nat → Bool), vs = [.str (S l), .int (c : Nat), .str z] ∧ c ≤ l.length ∧ l.length ≤ 16000000 ∧ (∀ c, decide (c ∈ z.cps.toList) = p c) ∧ Q (.int ((c + ((l.drop c).takeWhile p).length : Nat) : Int)) H
def spTokAt (CT CS : Addr) : Sp := fun vs H Q E => ∃ (l : List Nat) (row col : Nat), vs = [.str (S l), .int (row : Nat), .int (col : Nat)] ∧ col ≤ l.length ∧ l.length ≤ 16000000 ∧
  match lexTok (l.drop col) with
  | some t => ∀ a H', Same H H' → H a = none → TokAt CT H' a ⟨S t, row, col⟩ → Q (.ref a) H'
  | none => ∀ d, H d = none → E (.ref CS) (some d) (upd H d (sseD row col))
theorem dig_inN (c : Nat) : decide (c ∈ ("0123456789" : Str).cps.toList) = digN c := by
  have e : ("0123456789" : Str).cps.toList = (List.range 10).map (· + 48) := by decide +kernel
  rw [e]
  unfold digN
  rw [Bool.eq_iff_iff, decide_eq_true_iff, Bool.and_eq_true, decide_eq_true_iff, decide_eq_true_iff, List.mem_map]
  constructor
  · rintro ⟨i, hi, rfl⟩
    have := List.mem_range.mp hi
    omega
  · intro h
    exact ⟨c - 48, List.mem_range.mpr (by omega), by omega⟩
theorem let_inN (c : Nat) : decide (c ∈ ("abcdefghijklmnopqrstuvwxyz" : Str).cps.toList) = letN c := by
  have e : ("abcdefghijklmnopqrstuvwxyz" : Str).cps.toList = (List.range 26).map (· + 97) := by decide +kernel
  rw [e]
  unfold letN
  rw [Bool.eq_iff_iff, decide_eq_true_iff, Bool.and_eq_true, decide_eq_true_iff, decide_eq_true_iff, List.mem_map]
  constructor
  · rintro ⟨i, hi, rfl⟩
    have := List.mem_range.mp hi
    omega
  · intro h
    exact ⟨c - 97, List.mem_range.mpr (by omega), by omega⟩
theorem tw_le {p : Nat → Bool} (l : List Nat) : (l.takeWhile p).length ≤ l.length := (List.takeWhile_prefix p).length_le
theorem tw_take {p : Nat → Bool} (l : List Nat) : l.take (l.takeWhile p).length = l.takeWhile p := by
  conv => lhs; arg 2; rw [← List.takeWhile_append_dropWhile (p := p) (l := l)]
  rw [List.take_left]
def signsS : List Str := ["<=", ">=", "!=", "{", "}", "(", ")", ";", ",", "+", "-", "*", "<", "=", ">"]
theorem signs_eq : signsS = signsL.map S := by decide +kernel
theorem sign_fm {s : List Nat} (h : s ∈ signsL) : fmOf (S s) = .sign := by
  unfold signsL at h
  simp only [List.mem_cons, List.not_mem_nil, or_false] at h
  rcases h with rfl | rfl | rfl | rfl | rfl | rfl | rfl | rfl | rfl | rfl | rfl | rfl | rfl | rfl | rfl <;> decide
theorem fm_letters {t : List Nat} (h : t.all letN = true) (hn : 1 ≤ t.length) : fmOf (S t) = .word := by
  unfold fmOf
  cases t with
  | nil => simp at hn
  | cons c r =>
    show (if letN c then Fm.word else if digN c then Fm.number else Fm.sign) = .word
    rw [List.all_eq_true.mp h c (List.mem_cons_self ..)]
    rfl
theorem fm_digits {t : List Nat} (h : t.all digN = true) (hn : 1 ≤ t.length) : fmOf (S t) = .number := by
  unfold fmOf
  cases t with
  | nil => simp at hn
  | cons c r =>
    show (if letN c then Fm.word else if digN c then Fm.number else Fm.sign) = .number
    have h1 := List.all_eq_true.mp h c (List.mem_cons_self ..)
    have h2 : letN c = false := by
      cases q : letN c with
      | false => rfl
      | true => rw [letN_digN q] at h1; cases h1
    rw [h1, h2]
    rfl
section
variable {P : Program} {w : World} {K : PySem.W.Frag} {mg : Str → Option Value} {base : Heap} {CT CS : Addr}
theorem ok_tok_init (A : All K mg) (O : ClsOk K mg "Token" CT tkF) (m : MkIn K CT "Token.__init__" s_Token___init) : CalK P w K mg base 1 "Token" CT (spTokI CT) := by
  refine calK_of O m sc_Token___init (fun _ _ _ _ _ _ us hl => match us, hl with | [_, _, _, _], _ => rfl) (fun vs H Q E h => ?_) (fun f cdv A' outer s H0 vs Q E hr h => ?_)
  · obtain ⟨n, dn, f, x, p, rfl, _⟩ := h
    rfl
  · obtain ⟨n, dn, f0, x, p, rfl, h0, k⟩ := h
    refine ⟨_, (pss_cons (k_sfld (K := K) rfl (pv 0) (pv 1))
 (pss_cons (k_sfld (K := K) rfl (pv 0) (pv 2))
 (pss_one (k_sfld (K := K) rfl (pv 0) (pv 3))))), ?_⟩
    have st : Stt [n] H0 [(n, .ins CT dn [])] [] H0 := Stt.start [n] _ H0 (fun p hp => by rw [List.mem_singleton.mp hp]; exact ⟨h0, trivial⟩) rfl (by simp)
    walk_at "begin"
    refine ⟨n, CT, dn, _, rfl, st.at 0 rfl, O.cl, O.no _ (by simp [tkF]), (by simp), ?_⟩
    have st := st.set 0 (o' := .ins CT dn [("form", f0)]) rfl trivial
    walk_at "go"
    refine ⟨n, CT, dn, _, rfl, st.at 0 rfl, O.cl, O.no _ (by simp [tkF]), (by simp), ?_⟩
    have st := st.set 0 (o' := .ins CT dn [("form", f0), ("text", x)]) rfl trivial
    walk_at "go"
    refine ⟨n, CT, dn, _, rfl, st.at 0 rfl, O.cl, O.no _ (by simp [tkF]), (by simp), ?_⟩
    have st := st.set 0 (o' := .ins CT dn [("form", f0), ("text", x), ("place", p)]) rfl trivial
    exact k _ st.ex (st.at 0 rfl)
theorem ok_end_of_run (A : All K mg) : Cal P w K mg base 1 "end_of_run" spEnd := by
  refine cal_of A.d_end_of_run sc_end_of_run (fun _ _ _ _ _ _ us hl => match us, hl with | [_, _, _], _ => rfl) (fun vs H Q E h => ?_) (fun f cdv A' outer s H vs Q E hr h => ?_)
  · obtain ⟨l, c, z, p, rfl, _⟩ := h
    rfl
  · obtain ⟨l, c, z, p, rfl, hc, hl, hp, k⟩ := h
    refine ⟨_, (pss_cons (ps_set (i := 3) sc_end_of_run.nd rfl (Or.inl rfl) (pv 1))
 (pss_cons (ps_while PassesOwn.never (PW.pt (pw_and (pt_cmpR op_lt (pv 3) (pe_callB (id := "len") (k_len (K := K) rfl) (by rfl) A.b_len (by decide +kernel) (pa_cons (pv 0) pa_nil)) (nomark _)) (pw_and1 (pt_cmpR op_inC (pe_ix ix_str (pv 0) (pv 3) (fun _ _ => rfl)) (pv 2) (by rfl)))))
 (pss_one (ps_aug (i := 3) sc_end_of_run.nd rfl (Or.inl rfl) pe_int ip_add)))
 (pss_one (ps_ret (pv 3))))), ?_⟩
    walk_at "begin"
    refine ⟨fun n σ H' => H' = H ∧ ∃ e : Nat, σ = [some (.str (S l)), some (.int (c : Nat)), some (.str z), some (.int (e : Nat))] ∧ e ≤ l.length ∧ n = l.length - e ∧ e + ((l.drop e).takeWhile p).length = c + ((l.drop c).takeWhile p).length, ⟨l.length - c, rfl, c, rfl, hc, rfl, rfl⟩, ?_⟩
    rintro n σ H' ⟨rfl, e, rfl, he, rfl, hq⟩
    walk_at "go"
    refine i_lenSB hl ?_
    walk_at "go"
    have stop : (l.drop e).takeWhile p = [] → Q (.int ((e : Nat) : Int)) H' := fun h => by
      rw [h] at hq
      rw [← hq] at k
      exact k
    by_cases h1 : e < l.length
    · rw [decide_eq_true (show ((e : Nat) : Int) < (l.length : Int) by omega)]
      refine iteT ?_
      walk_at "go"
      have hx : l[e]? = some l[e] := List.getElem?_eq_getElem h1
      have hd : l.drop e = l[e] :: l.drop (e + 1) := by rw [List.drop_eq_getElem_cons h1]
      refine i_ixSB hl hx ?_
      generalize l[e] = x at hx hd
      walk_at "go"
      rw [hp x]
      cases hpx : p x with
      | true =>
        refine iteT ?_
        refine ⟨fun σ H2 => ∃ n' < l.length - e, H2 = H' ∧ ∃ e : Nat, σ = [some (.str (S l)), some (.int (c : Nat)), some (.str z), some (.int (e : Nat))] ∧ e ≤ l.length ∧ n' = l.length - e ∧ e + ((l.drop e).takeWhile p).length = c + ((l.drop c).takeWhile p).length, fun σ' H' h => h, ?_⟩
        walk_at "go"
        refine ⟨l.length - (e + 1), by omega, rfl, e + 1, rfl, by omega, rfl, ?_⟩
        rw [hd, List.takeWhile_cons, if_pos hpx, List.length_cons] at hq
        omega
      | false =>
        refine iteF ?_
        walk_at "go"
        exact stop (by rw [hd, List.takeWhile_cons, hpx]; rfl)
    · rw [decide_eq_false (show ¬ ((e : Nat) : Int) < (l.length : Int) by omega)]
      refine iteF ?_
      refine iteF ?_
      walk_at "go"
      exact stop (by rw [List.drop_of_length_le (by omega)]; rfl)
theorem ok_token_at (A : All K mg) (KS : KxScriptSyntaxError K mg CS) (c_Token : CalK P w K mg base 1 "Token" CT (spTokI CT)) (c_end_of_run : Cal P w K mg base 1 "end_of_run" spEnd) : Cal P w K mg base 3 "token_at" (spTokAt CT CS) := by
  refine cal_ofX A.d_token_at sc_token_at (fun _ _ _ _ _ _ us hl => match us, hl with | [_, _, _], _ => rfl) (fun vs H Q E h => ?_) (fun f cdv A' outer s H vs Q E hr h => ?_)
  · obtain ⟨l, row, col, rfl, _⟩ := h
    rfl
  · obtain ⟨l, row, col, rfl, hc, hl, k⟩ := h
    obtain ⟨_, h_LETTERS⟩ := A.c_LETTERS
    obtain ⟨_, h_MAX_LETTERS⟩ := A.c_MAX_LETTERS
    obtain ⟨_, h_DIGITS⟩ := A.c_DIGITS
    obtain ⟨_, h_MAX_DIGITS⟩ := A.c_MAX_DIGITS
    obtain ⟨_, h_WORD⟩ := A.c_WORD
    obtain ⟨_, h_NUMBER⟩ := A.c_NUMBER
    obtain ⟨_, h_SIGN⟩ := A.c_SIGN
    obtain ⟨a_SIGNS, h_SIGNS, q_SIGNS⟩ := A.c_SIGNS
    refine ⟨_, (pss_cons (ps_set (i := 3) sc_token_at.nd rfl (Or.inl rfl) (pe_slice sl_str (pv 0) (po_some (pv 2)) (po_some (pc c_end_of_run hr (by decide) (pa_cons (pv 0) (pa_cons (pv 2) (pa_cons (pe_glob (v := .str "abcdefghijklmnopqrstuvwxyz") rfl h_LETTERS ⟨_, rfl⟩) pa_nil)))))))
 (pss_cons (ps_if (pt_chain op_le op_le pe_int (pe_callB (id := "len") (k_len (K := K) rfl) (by rfl) A.b_len (by decide +kernel) (pa_cons (pv 3) pa_nil)) (pe_glob (v := .int 8) rfl h_MAX_LETTERS ⟨_, rfl⟩)) (pss_one (ps_ret (pk c_Token hr (by decide) (pa_cons (pe_glob (v := .str "word") rfl h_WORD ⟨_, rfl⟩) (pa_cons (pv 3) (pa_cons (pe_tup (pa_cons (pv 1) (pa_cons (pv 2) pa_nil))) pa_nil)))))) pss_nil)
 (pss_cons (ps_set (i := 4) sc_token_at.nd rfl (Or.inl rfl) (pe_slice sl_str (pv 0) (po_some (pv 2)) (po_some (pc c_end_of_run hr (by decide) (pa_cons (pv 0) (pa_cons (pv 2) (pa_cons (pe_glob (v := .str "0123456789") rfl h_DIGITS ⟨_, rfl⟩) pa_nil)))))))
 (pss_cons (ps_if (PW.pt (pw_and (pt_chain op_le op_le pe_int (pe_callB (id := "len") (k_len (K := K) rfl) (by rfl) A.b_len (by decide +kernel) (pa_cons (pv 4) pa_nil)) (pe_glob (v := .int 18) rfl h_MAX_DIGITS ⟨_, rfl⟩)) (pw_and1 (PW.pt (pw_or (pt_cmpR op_eq (pv 4) pe_str (nomark _)) (pw_or1 (pt_cmpR op_ne (pe_ix ix_str (pv 4) pe_int (fun _ _ => rfl)) pe_str (nomark _)))))))) (pss_one (ps_ret (pk c_Token hr (by decide) (pa_cons (pe_glob (v := .str "number") rfl h_NUMBER ⟨_, rfl⟩) (pa_cons (pv 4) (pa_cons (pe_tup (pa_cons (pv 1) (pa_cons (pv 2) pa_nil))) pa_nil)))))) pss_nil)
 (pss_cons (ps_for (passes_of rfl) rfl (k_pt (K := K) rfl (pe_glob (v := .ref a_SIGNS) rfl h_SIGNS rfl)) (pg_name (i := 5) sc_token_at.nd rfl (Or.inl rfl))
 (pss_one (ps_if (pt_cmpR op_eq (pe_slice sl_str (pv 0) (po_some (pv 2)) (po_some (pe_op op_add (pv 2) (pe_callB (id := "len") (k_len (K := K) rfl) (by rfl) A.b_len (by decide +kernel) (pa_cons (pv 5) pa_nil))))) (pv 5) (nomark _)) (pss_one (ps_ret (pk c_Token hr (by decide) (pa_cons (pe_glob (v := .str "sign") rfl h_SIGN ⟨_, rfl⟩) (pa_cons (pv 5) (pa_cons (pe_tup (pa_cons (pv 1) (pa_cons (pv 2) pa_nil))) pa_nil)))))) pss_nil)))
 (pss_one (ps_sse KS (hr.mono (by decide)) rfl (takes_of rfl rfl rfl rfl) rfl (pk_cons (pv 1) (pk_cons (pv 2) pk_nil))))))))), ?_⟩
    have mk : ∀ {σ : L2.St} {fm : Fm} {t : List Nat} {te tx : TE} {H1 : Hp}, H1 = H → σ[1]? = some (some (.int (row : Nat))) → σ[2]? = some (some (.int (col : Nat))) → (∀ Q, Q (.str fm.s) H → te σ H Q) → (∀ Q, Q (.str (S t)) H → tx σ H Q) → fmOf (S t) = fm → lexTok (l.drop col) = some t →
        (tRet (tMake CT (spTokI CT) [] E0 (tCons te (tCons tx (tCons (tTup (tCons (tVar 1) (tCons (tVar 2) tNil))) tNil))))) { nx := fun _ H' => Q .non H', rt := Q } σ H1 := by
      intro σ fm t te tx H1 e1 h1 h2 h3 h4 h5 h6
      subst e1
      rw [h6] at k
      walk_at "go"
      refine i_makeX ?_
      walk_at "go"
      refine h3 _ ?_
      refine h4 _ ?_
      walk_at "go"
      refine i_var h1 ?_
      walk_at "go"
      refine i_var h2 ?_
      refine ⟨sz_of (by simp), fun pl npl => ?_⟩
      intro x dx nx ndx hne
      refine ⟨x, dx, _, _, _, rfl, upd_same, fun H' e' hx => ⟨rfl, k x H' (fun a o h => ?_) ?_ ⟨dx, pl, ?_, ?_⟩⟩⟩
      · have n1 : a ≠ pl := ne_of_none h npl
        have h' : upd H1 pl (.tup [.int (row : Nat), .int (col : Nat)]) a = some o := by rw [upd_ne n1]; exact h
        have n2 : a ≠ x := ne_of_none h' nx
        have n3 : a ≠ dx := ne_of_none h' ndx
        exact e' a o (by simpa using n2) (by rw [upd_ne n2, upd_ne n3]; exact h')
      · cases q : H1 x with
        | none => rfl
        | some o =>
          have h' : upd H1 pl (.tup [.int (row : Nat), .int (col : Nat)]) x = some o := by rw [upd_ne (ne_of_none q npl)]; exact q
          rw [nx] at h'
          cases h'
      · rw [hx, ← h5]
      · have n2 : pl ≠ x := fun e => by rw [← e, upd_same] at nx; cases nx
        have n3 : pl ≠ dx := fun e => by rw [← e, upd_same] at ndx; cases ndx
        exact e' pl _ (by simpa using n2) (by rw [upd_ne n2, upd_ne n3, upd_same])
    have hw := tw_le (p := letN) (l.drop col)
    have hg := tw_le (p := digN) (l.drop col)
    have sl : ∀ p : Nat → Bool, cutS (S l) (some ((col : Nat) : Int)) (some ((col + ((l.drop col).takeWhile p).length : Nat) : Int)) = S ((l.drop col).takeWhile p) := fun p => by rw [cutS_midA, show col + ((l.drop col).takeWhile p).length - col = ((l.drop col).takeWhile p).length by omega, tw_take]
    have hld : (l.drop col).length ≤ l.length := by rw [List.length_drop]; omega
    (try (dsimp only [L2.cxOf, L2.Cx.nox, L2.Cx.wish, L2.Cx.blk]))
    walk_at "gi"
    refine i_slMid ?_
    walk_at "gi"
    refine ⟨_, rfl, ?_⟩
    walk_at "gi"
    refine ⟨l, col, _, letN, rfl, hc, hl, let_inN, ?_⟩
    refine ⟨_, rfl, S l, rfl, by rw [S_len]; exact szB hl, ?_⟩
    rw [sl letN]
    generalize hw' : (l.drop col).takeWhile letN = w' at hw
    walk_at "gi"
    refine i_joinI (fun σ' H' => H' = H ∧ σ' = [some (.str (S l)), some (.int (row : Nat)), some (.int (col : Nat)), some (.str (S w')), none, none] ∧ ¬ (1 ≤ w'.length ∧ w'.length ≤ 8)) (fun N J => ?_) ?_
    · walk_at "go"
      refine i_lenSB (by omega) ?_
      walk_at "go"
      by_cases h1 : 1 ≤ w'.length
      · refine ifT (decide_eq_true (by omega)) ?_
        walk_at "go"
        by_cases h2 : w'.length ≤ 8
        · refine ifT (decide_eq_true (by omega)) ?_
          refine mk (fm := .word) (t := w') rfl rfl rfl (fun Q q => q) (fun Q q => i_var rfl q) (fm_letters (by rw [← hw']; exact List.all_takeWhile) h1) ?_
          unfold lexTok
          rw [hw', if_pos ⟨h1, h2⟩]
        · refine ifF (decide_eq_false (by omega)) ?_
          refine i_next ?_
          exact J _ _ ⟨rfl, rfl, fun h => h2 h.2⟩
      · refine ifF (decide_eq_false (by omega)) ?_
        refine i_bl (ifF rfl ?_)
        refine i_next ?_
        exact J _ _ ⟨rfl, rfl, fun h => h1 h.1⟩
    · rintro σ H1 ⟨rfl, rfl, hno⟩
      walk_at "gi"
      refine i_slMid ?_
      walk_at "gi"
      refine ⟨_, rfl, ?_⟩
      walk_at "gi"
      refine ⟨l, col, _, digN, rfl, hc, hl, dig_inN, ?_⟩
      refine ⟨_, rfl, S l, rfl, by rw [S_len]; exact szB hl, ?_⟩
      rw [sl digN]
      generalize hg' : (l.drop col).takeWhile digN = g' at hg
      walk_at "gi"
      have hall : g'.all digN = true := by rw [← hg']; exact List.all_takeWhile
      refine i_joinI (fun σ' H' => H' = H1 ∧ σ' = [some (.str (S l)), some (.int (row : Nat)), some (.int (col : Nat)), some (.str (S w')), some (.str (S g')), none] ∧ ¬ ((1 ≤ g'.length ∧ g'.length ≤ 18) ∧ (g' = [48] ∨ g'[0]? ≠ some 48))) (fun N J => ?_) ?_
      · have good : (1 ≤ g'.length ∧ g'.length ≤ 18) ∧ (g' = [48] ∨ g'[0]? ≠ some 48) → lexTok (l.drop col) = some g' := fun h => by
          unfold lexTok
          rw [hw', if_neg hno, hg', if_pos h]
        walk_at "go"
        refine i_lenSB (by omega) ?_
        walk_at "go"
        by_cases h1 : 1 ≤ g'.length
        · refine ifT (decide_eq_true (by omega)) ?_
          walk_at "go"
          by_cases h2 : g'.length ≤ 18
          · refine ifT (decide_eq_true (by omega)) ?_
            walk_at "go"
            rw [show ("0" : Str) = S [48] by decide +kernel, S_decB]
            by_cases h3 : g' = [48]
            · refine ifT (decide_eq_true h3) ?_
              exact mk (fm := .number) (t := g') rfl rfl rfl (fun Q q => q) (fun Q q => i_var rfl q) (fm_digits hall h1) (good ⟨⟨h1, h2⟩, .inl h3⟩)
            · refine ifF (decide_eq_false h3) ?_
              walk_at "go"
              obtain ⟨x, r, e⟩ : ∃ x r, g' = x :: r := by
                cases g' with
                | nil => simp at h1
                | cons x r => exact ⟨x, r, rfl⟩
              refine i_ixSB (l := g') (j := 0) (c := x) (by omega) (by rw [e]; rfl) ?_
              walk_at "go"
              rw [S_decB]
              by_cases h4 : x = 48
              · refine ifF (by rw [h4]; rfl) ?_
                refine i_next ?_
                refine J _ _ ⟨rfl, rfl, fun h => ?_⟩
                rcases h.2 with h | h
                · exact h3 h
                · exact h (by rw [e, h4]; rfl)
              · refine ifT (by rw [decide_eq_false (fun h => h4 (List.cons.inj h).1)]; rfl) ?_
                refine mk (fm := .number) (t := g') rfl rfl rfl (fun Q q => q) (fun Q q => i_var rfl q) (fm_digits hall h1) (good ⟨⟨h1, h2⟩, .inr ?_⟩)
                rw [e]
                exact fun h => h4 (Option.some.inj h)
          · refine ifF (decide_eq_false (by omega)) ?_
            refine ifF rfl ?_
            refine i_next ?_
            exact J _ _ ⟨rfl, rfl, fun h => h2 h.1.2⟩
        · refine ifF (decide_eq_false (by omega)) ?_
          refine i_bl (ifF rfl ?_)
          refine ifF rfl ?_
          refine i_next ?_
          exact J _ _ ⟨rfl, rfl, fun h => h1 h.1.1⟩
      · rintro σ H2 ⟨rfl, rfl, hno2⟩
        have elx : lexTok (l.drop col) = signsL.find? fun s => decide ((l.drop col).take s.length = s) := by
          unfold lexTok
          rw [hw', if_neg hno, hg', if_neg hno2]
        have hsg : ∀ H, SqT K H a_SIGNS (signsS.map V.str) := q_SIGNS
        walk_at "go"
        refine ⟨a_SIGNS, rfl, ⟨_, hsg _⟩, ForIt.go (walk_tup (xs := signsS.map V.str)) (fun i σ H' => H' = H2 ∧ (∃ s5, σ = [some (.str (S l)), some (.int (row : Nat)), some (.int (col : Nat)), some (.str (S w')), some (.str (S g')), s5]) ∧ ∀ s ∈ signsL.take i, ¬ (l.drop col).take s.length = s) ⟨rfl, ⟨_, rfl⟩, fun s h => by simp at h⟩ (fun _ _ _ _ _ => hsg _) ?_ ?_⟩
        · rintro i x σ H' H3 hi ⟨rfl, ⟨s5, rfl⟩, hpre⟩ ⟨rfl, hx⟩
          have hi : i < signsL.length := by simpa [signs_eq] using hi
          have es : signsL[i]? = some signsL[i] := List.getElem?_eq_getElem hi
          generalize signsL[i] = s at es
          have hm := List.mem_of_getElem? es
          obtain rfl : V.str (S s) = x := by
            have hx : (signsS.map V.str)[i]? = some x := hx
            rw [signs_eq, List.getElem?_map, List.getElem?_map, es] at hx
            exact Option.some.inj hx
          have hs2 : s.length ≤ 2 := by
            revert hm
            unfold signsL
            intro hm
            simp only [List.mem_cons, List.not_mem_nil, or_false] at hm
            rcases hm with rfl | rfl | rfl | rfl | rfl | rfl | rfl | rfl | rfl | rfl | rfl | rfl | rfl | rfl | rfl <;> decide
          walk_at "go"
          refine i_slMid ?_
          walk_at "go"
          refine ⟨_, rfl, ?_⟩
          walk_at "go"
          refine i_lenSB (by omega) ?_
          walk_at "go"
          refine ⟨_, rfl, S l, rfl, by rw [S_len]; exact szB hl, ?_⟩
          rw [show ((col : Nat) : Int) + (s.length : Int) = ((col + s.length : Nat) : Int) by omega, cutS_midA, show col + s.length - col = s.length by omega]
          walk_at "go"
          rw [S_decB]
          by_cases he : (l.drop col).take s.length = s
          · refine ifT (decide_eq_true he) ?_
            refine mk (fm := .sign) (t := s) rfl rfl rfl (fun Q q => q) (fun Q q => i_var rfl q) (sign_fm hm) ?_
            rw [elx, List.find?_eq_some_iff_getElem]
            refine ⟨decide_eq_true he, i, hi, (List.getElem?_eq_some_iff.mp es).2, fun j hj => ?_⟩
            have := hpre _ (List.mem_of_getElem? (show (signsL.take i)[j]? = some (signsL[j]'(by omega)) by rw [List.getElem?_take, if_pos hj]; exact List.getElem?_eq_getElem _))
            simpa using this
          · refine ifF (decide_eq_false he) ?_
            refine i_next ?_
            refine ⟨rfl, ⟨_, rfl⟩, fun q hq => ?_⟩
            rw [List.take_succ, es] at hq
            rcases List.mem_append.mp hq with hq | hq
            · exact hpre q hq
            · rw [List.mem_singleton.mp hq]; exact he
        · rintro σ H' ⟨rfl, ⟨s5, rfl⟩, hpre⟩
          have hnone : lexTok (l.drop col) = none := by
            rw [elx, List.find?_eq_none]
            intro s hs
            have := hpre s (by
              rw [show signsL.take (signsS.map V.str).length = signsL from by rw [signs_eq]; simp]
              exact hs)
            simpa using this
          rw [hnone] at k
          walk_at "go"
          unfold tMkOK
          walk_at "go"
          exact sse_sp fun d nd => k d nd
theorem lexLn_step {n row col : Nat} {acc : List Tok} {c : Nat} {r : List Nat} (h1 : c ≠ 35) (h2 : c ≠ 32) : lexLn (n + 1) row col acc (c :: r) = (match lexTok (c :: r) with
      | none => .error (row, col)
      | some t => lexLn n row (col + t.length) (acc ++ [⟨S t, row, col⟩]) ((c :: r).drop t.length)) := by
  rw [lexLn, if_neg h1, if_neg h2] <;> rfl
def spTokz (CT CS : Addr) : Sp := fun vs H Q E => ∃ l : List Nat, vs = [.str (S l)] ∧ l.length ≤ 15000000 ∧
  match lexAll l with
  | .ok toks => ∀ la as H', Same H H' → H la = none → H' la = some (.lst (as.map V.ref)) → TksAt CT H' as toks → Q (.ref la) H'
  | .error (row, col) => ∀ d H1, Same H H1 → H1 d = none → E (.ref CS) (some d) (upd H1 d (sseD row col))
theorem spN_len (l : List Nat) : ∀ r ∈ spN l, r.length ≤ l.length := by
  induction l with
  | nil =>
    intro r hr
    rw [spN] at hr
    rw [List.mem_singleton.mp hr]
    exact Nat.zero_le _
  | cons c l ih =>
    intro r hr
    obtain ⟨h, t, e⟩ := spN_ne l
    by_cases hc : c = 10
    · subst hc
      rw [spN_nl] at hr
      rcases List.mem_cons.mp hr with rfl | hr
      · simp
      · have := ih r hr; simp; omega
    · rw [spN_c hc e] at hr
      rw [e] at ih
      rcases List.mem_cons.mp hr with rfl | hr
      · have := ih h (List.mem_cons_self ..); simp; omega
      · have := ih r (List.mem_cons_of_mem _ hr); simp; omega
theorem spN_cnt (l : List Nat) : (spN l).length ≤ l.length + 1 := by
  induction l with
  | nil => simp [spN]
  | cons c l ih =>
    obtain ⟨h, t, e⟩ := spN_ne l
    by_cases hc : c = 10
    · subst hc
      rw [spN_nl]
      simp only [List.length_cons]
      omega
    · rw [spN_c hc e]
      rw [e] at ih
      simp only [List.length_cons] at ih ⊢
      omega
theorem spN_flat (l : List Nat) : (spN l).flatten.length ≤ l.length := by
  induction l with
  | nil => simp [spN]
  | cons c l ih =>
    obtain ⟨h, t, e⟩ := spN_ne l
    by_cases hc : c = 10
    · subst hc
      rw [spN_nl]
      simp only [List.flatten_cons, List.nil_append, List.length_cons]
      omega
    · rw [spN_c hc e]
      rw [e] at ih
      simp only [List.flatten_cons, List.length_append, List.length_cons] at ih ⊢
      omega
theorem ok_tokenize (A : All K mg) (c_token_at : Cal P w K mg base 3 "token_at" (spTokAt CT CS)) (O : ClsOk K mg "Token" CT tkF) : Cal P w K mg base 4 "tokenize" (spTokz CT CS) := by
  refine cal_ofX A.d_tokenize sc_tokenize (fun _ _ _ _ _ _ us hl => match us, hl with | [_], _ => rfl) (fun vs H Q E h => ?_) (fun f cdv A' outer s H0 vs Q E hr h => ?_)
  · obtain ⟨l, rfl, _⟩ := h
    rfl
  · obtain ⟨l, rfl, hl, k⟩ := h
    obtain ⟨_, h_COMMENT⟩ := A.c_COMMENT
    refine ⟨_, (pss_cons (ps_set (i := 1) sc_tokenize.nd rfl (Or.inl rfl) (pe_lst pa_nil))
 (pss_cons (ps_for (passes_of rfl) rfl (k_enum (K := K) rfl (by rfl) A.b_enumerate (pa_cons (pe_bm PySem.F.plainAttrs_str PySem.F.slot_str_split PySem.F.type_str_split mt_split (pv 0) (pa_cons pe_str pa_nil)) pa_nil)) (k_tg (K := K) (n := 2) rfl rfl (pgs_cons (pg_name (i := 2) sc_tokenize.nd rfl (Or.inl rfl)) (pgs_cons (pg_name (i := 3) sc_tokenize.nd rfl (Or.inl rfl)) pgs_nil)))
 (pss_cons (ps_set (i := 4) sc_tokenize.nd rfl (Or.inl rfl) pe_int)
 (pss_one (ps_while (passes_of rfl) (PW.pt (pw_and (pt_cmpR op_lt (pv 4) (pe_callB (id := "len") (k_len (K := K) rfl) (by rfl) A.b_len (by decide +kernel) (pa_cons (pv 3) pa_nil)) (nomark _)) (pw_and1 (pt_cmpR op_ne (pe_ix ix_str (pv 3) (pv 4) (fun _ _ => rfl)) (pe_glob (v := .str "#") rfl h_COMMENT ⟨_, rfl⟩) (nomark _)))))
 (pss_one (ps_if (pt_cmpR op_eq (pe_ix ix_str (pv 3) (pv 4) (fun _ _ => rfl)) pe_str (nomark _)) (pss_one (ps_aug (i := 4) sc_tokenize.nd rfl (Or.inl rfl) pe_int ip_add)) (pss_cons (ps_expr (pe_bm PySem.F.plainAttrs_list PySem.F.slot_list_append PySem.F.type_list_append mt_append (pv 1) (pa_cons (pcX c_token_at hr (by decide) (takes_of rfl rfl rfl rfl) (pa_cons (pv 3) (pa_cons (pv 2) (pa_cons (pv 4) pa_nil)))) pa_nil)))
 (pss_one (ps_aug (i := 4) sc_tokenize.nd rfl (Or.inl rfl) (pe_callB (id := "len") (k_len (K := K) rfl) (by rfl) A.b_len (by decide +kernel) (pa_cons (k_fld (K := K) rfl (pe_ix (k_ixL (K := K) rfl) (pv 1) (pe_un un_neg pe_int) (fun _ _ => rfl)) rfl) pa_nil)) ip_add)))))))))
 (pss_one (ps_ret (pv 1))))), ?_⟩
    have st : Stt [] H0 [] [] H0 := Stt.init H0
    have hrow := spN_len l
    have hcnt := spN_cnt l
    walk_at "begin"
    refine st_newLB st (by simp) fun la nla st => ?_
    walk_at "go"
    refine i_tyS ?_
    walk_at "go"
    refine ⟨S l, "\n", rfl, rfl, by decide +kernel, szB (by rw [S_len]; omega), fun ll nll => ?_⟩
    rw [show ("\n" : Str) = S [10] by decide +kernel, split_S (by simp) (by simp), spl1_spN]
    have st := st.new (o := .lst (((spN l).map S).map V.str)) nll trivial
    walk_at "go"
    refine ⟨true, ll, ((spN l).map S).map V.str, rfl, sqBL (st.sqL 1 rfl), ForIt.go (walk_enumB (kd := true) (xs := ((spN l).map S).map V.str)) (fun j σ H => ∃ s2 s3 s4 as acc P, σ = [some (.str (S l)), some (.ref la), s2, s3, s4] ∧
      Stt [] H0 [(la, .lst (as.map V.ref)), (ll, .lst (((spN l).map S).map V.str))] P H ∧ TksAt CT H as acc ∧ acc.length + ((spN l).drop j).flatten.length ≤ l.length ∧ lexAll l = lexLs j acc ((spN l).drop j)) ⟨_, _, _, [], [], [], rfl, (show Stt [] H0 [(la, .lst (([] : List Addr).map V.ref)), (ll, .lst (((spN l).map S).map V.str))] [] _ from st), .nil, by simpa using spN_flat l, rfl⟩ (fun j σ H _ p => ?_) ?_ ?_⟩
    · obtain ⟨_, _, _, _, _, _, _, st, _⟩ := p
      exact sqBL (st.sqL 1 rfl)
    · clear st
      rintro j v σ H H' hj ⟨s2, s3, s4, as, acc, P, rfl, st, tks, hcnt2, hlex⟩ ⟨T, x, y, rfl, hT, rfl, hx, hy⟩
      have tks := tks.same (Same.new (o := .tup [x, y]) hT)
      have st := st.newT K hT (xs := [x, y])
      obtain rfl : x = V.int j := (Option.some.inj hx).symm
      have hj : j < (spN l).length := by simpa using hj
      have er : (spN l)[j]? = some (spN l)[j] := List.getElem?_eq_getElem hj
      have ed : (spN l).drop j = (spN l)[j] :: (spN l).drop (j + 1) := List.drop_eq_getElem_cons hj
      generalize (spN l)[j] = r at er ed
      have hr2 := hrow r (List.mem_of_getElem? er)
      obtain rfl : V.str (S r) = y := by
        have hy : (((spN l).map S).map V.str)[j]? = some y := hy
        rw [List.getElem?_map, List.getElem?_map, er] at hy
        exact Option.some.inj hy
      rw [ed, List.flatten_cons, List.length_append] at hcnt2
      rw [ed] at hlex
      generalize (spN l).drop (j + 1) = rest at hcnt2 hlex
      walk_at "go"
      refine i_gtup (xs := [.int (j : Int), .str (S r)]) (SqT.of upd_same) rfl ?_
      have st := st.forget
      generalize upd H T (.tup [.int (j : Int), .str (S r)]) = H at st tks
      walk_at "go"
      refine ⟨fun n σ H => ∃ as acc P col, σ = [some (.str (S l)), some (.ref la), some (.int (j : Nat)), some (.str (S r)), some (.int (col : Nat))] ∧ Stt [] H0 [(la, .lst (as.map V.ref)), (ll, .lst (((spN l).map S).map V.str))] P H ∧ TksAt CT H as acc ∧ col ≤ r.length ∧ n = r.length - col ∧ acc.length + (r.length - col) + rest.flatten.length ≤ l.length ∧
        lexAll l = (match lexLn (r.length - col + 1) j col acc (r.drop col) with | .ok acc => lexLs (j + 1) acc rest | .error e => .error e), ⟨r.length, as, acc, _, 0, rfl, st, tks, Nat.zero_le _, rfl, by omega, hlex⟩, ?_⟩
      clear st tks hlex hcnt2
      rintro n σ H ⟨as, acc, P, col, rfl, st, tks, hc, rfl, hcnt3, hlex⟩
      walk_at "go"
      refine i_lenSB (by omega) ?_
      walk_at "go"
      by_cases hcol : col < r.length
      · refine ifT (decide_eq_true (by omega)) ?_
        walk_at "go"
        have hx : r[col]? = some r[col] := List.getElem?_eq_getElem hcol
        have hd : r.drop col = r[col] :: r.drop (col + 1) := List.drop_eq_getElem_cons hcol
        generalize r[col] = c at hx hd
        refine i_ixSB (by omega) hx ?_
        walk_at "go"
        rw [show ("#" : Str) = S [35] by decide +kernel, S_decB]
        by_cases h35 : c = 35
        · refine ifF (by rw [h35]; rfl) ?_
          refine ⟨_, _, _, as, acc, _, rfl, st, tks, by omega, ?_⟩
          rw [hlex, hd, lexLn, if_pos h35]
        · refine ifT (by rw [decide_eq_false (fun h => h35 (List.cons.inj h).1)]; rfl) ?_
          refine ⟨fun σ H => ∃ n' < r.length - col, ∃ as acc P col, σ = [some (.str (S l)), some (.ref la), some (.int (j : Nat)), some (.str (S r)), some (.int (col : Nat))] ∧ Stt [] H0 [(la, .lst (as.map V.ref)), (ll, .lst (((spN l).map S).map V.str))] P H ∧ TksAt CT H as acc ∧ col ≤ r.length ∧ n' = r.length - col ∧ acc.length + (r.length - col) + rest.flatten.length ≤ l.length ∧
            lexAll l = (match lexLn (r.length - col + 1) j col acc (r.drop col) with | .ok acc => lexLs (j + 1) acc rest | .error e => .error e), fun σ' H' h => h, ?_⟩
          walk_at "go"
          refine i_ixSB (by omega) hx ?_
          walk_at "go"
          rw [show (" " : Str) = S [32] by decide +kernel, S_decB]
          by_cases h32 : c = 32
          · refine ifT (by rw [h32]; rfl) ?_
            walk_at "go"
            refine ⟨r.length - (col + 1), by omega, as, acc, _, col + 1, rfl, st, tks, by omega, rfl, by omega, ?_⟩
            rw [hlex, hd, show r.length - col + 1 = (r.length - (col + 1) + 1) + 1 by omega, lexLn, if_neg h35, if_pos h32]
          · refine ifF (decide_eq_false (fun h => h32 (List.cons.inj h).1)) ?_
            rw [hd, lexLn_step h35 h32, ← hd] at hlex
            walk_at "go"
            refine i_tyL (st.sqL 0 rfl) ?_
            walk_at "go"
            refine ⟨r, j, col, rfl, hc, by omega, ?_⟩
            cases et : lexTok (r.drop col) with
            | none =>
              rw [et] at hlex
              have hlex : lexAll l = .error (j, col) := hlex
              rw [hlex] at k
              exact fun d nd => k d H st.same nd
            | some t =>
              rw [et] at hlex
              obtain ⟨ht1, r', ht2⟩ := lexTok_pos et
              have htl : t.length ≤ r.length - col := by
                have := congrArg List.length ht2
                rw [List.length_drop, List.length_append] at this
                omega
              intro a H1 e1 na ta
              have st := st.ext e1
              have tks := tks.same e1
              have hnl := tks.n
              refine ⟨la, as.map V.ref, .ref a, rfl, rfl, st.at 0 rfl, szBlt (by rw [List.length_map]; omega), ?_⟩
              have tks := (tks.snoc ta).ex (exB_upd (o := .lst (as.map V.ref ++ [.ref a]))) (lst_no (st.at 0 rfl))
              have st := st.set 0 (o' := .lst (as.map V.ref ++ [.ref a])) rfl trivial
              rw [show as.map V.ref ++ [.ref a] = (as ++ [a]).map V.ref by simp] at st tks ⊢
              generalize upd H1 la (.lst ((as ++ [a]).map V.ref)) = H2 at st tks ⊢
              have st : Stt [] H0 [(la, .lst ((as ++ [a]).map V.ref)), (ll, .lst (((spN l).map S).map V.str))] P H2 := st
              walk_at "go"
              refine i_ixL (xs := (as ++ [a]).map V.ref) (v := .ref a) (st.sqL 0 rfl) (by rw [List.map_append]; exact atI_lastS) ?_
              walk_at "go"
              obtain ⟨dx, pl, h1, h2⟩ := tks.all as.length a ⟨S t, j, col⟩ (by simp) (by rw [hnl]; simp)
              refine i_fldV O (by simp [tkF]) h1 rfl ?_
              walk_at "go"
              refine i_lenSB (by omega) ?_
              walk_at "go"
              refine ⟨r.length - (col + t.length), by omega, as ++ [a], acc ++ [⟨S t, j, col⟩], _, col + t.length, rfl, st, tks, by omega, rfl, by rw [List.length_append, List.length_singleton]; omega, ?_⟩
              rw [hlex]
              dsimp only
              rw [List.drop_drop]
              rw [lexLn_fuel (r.length - col) (r.length - (col + t.length) + 1) _ _ _ _ (by rw [List.length_drop]; omega) (by rw [List.length_drop]; omega)]
      · refine ifF (decide_eq_false (by omega)) ?_
        refine ifF rfl ?_
        refine ⟨_, _, _, as, acc, _, rfl, st, tks, by omega, ?_⟩
        rw [hlex, List.drop_of_length_le (by omega)]
        rfl
    · rintro σ H ⟨s2, s3, s4, as, acc, P, rfl, st, tks, _, hlex⟩
      have hlex : lexAll l = .ok acc := by
        rw [hlex, show (((spN l).map S).map V.str).length = (spN l).length by simp, List.drop_length]
        rfl
      rw [hlex] at k
      walk_at "go"
      exact k la as H st.same (st.isNew 0 rfl) (st.at 0 rfl) tks
end
end Fb
namespace Fb
open PySem PySem.Spec PyProof.Rows L2 PySem.HandSPX SX
def psF : List Str := ["tokens", "cursor", "line_count"]
structure PsC where
  p : Addr
  dp : Addr
  la : Addr
  as : List Addr
  toks : List Tok
  n : Nat
abbrev psO (CP : Addr) (S : PsC) (c : Nat) : HO := .ins CP S.dp [("tokens", .ref S.la), ("cursor", .int (c : Nat)), ("line_count", .int (S.n : Nat))]
structure PsI (CT CP : Addr) (H : Hp) (S : PsC) (c : Nat) : Prop where
  h : H S.p = some (psO CP S c)
  l : H S.la = some (.lst (S.as.map V.ref))
  t : TksAt CT H S.as S.toks
  c : c ≤ S.toks.length
  z : S.toks.length ≤ 15000000
  ok : ∀ t ∈ S.toks, tokG (cs t.tx)
def lft (S : PsC) (c : Nat) : List Str := (S.toks.drop c).map (·.tx)
def plc (S : PsC) (r : List Str) : Nat × Nat := match S.toks[S.toks.length - r.length]? with
  | some t => (t.row, t.col)
  | none => (S.n, 0)
def PsR {α : Type} (CT CP CS : Addr) (H : Hp) (S : PsC) (Val : α → V → Hp → Prop) (res : Rs α) (Q : VK) (E : XK) : Prop := match res with
  | .no => False
  | .ok a r => ∀ v H' c', ExB [S.p] H H' → PsI CT CP H' S c' → lft S c' = r → Val a v H' → Q v H'
  | .err r => ∀ d H1, ExB [S.p] H H1 → H1 d = none → E (.ref CS) (some d) (upd H1 d (sseD (plc S r).1 (plc S r).2))
section
variable {CT CP CS : Addr} {H H' : Hp} {S : PsC} {c c' : Nat} {α : Type} {Val : α → V → Hp → Prop} {res : Rs α} {Q : VK} {E : XK}
theorem PsI.ins_no (i : PsI CT CP H S c) : ∀ b ∈ [S.p], (∀ xs, H b ≠ some (.tup xs)) ∧ ∀ dx t pl, H b ≠ some (.ins CT dx (tokFs t pl)) := fun b hb => by
  rw [List.mem_singleton.mp hb, i.h]
  exact ⟨fun xs e => (by cases e), fun dx t pl e => by
    have := Option.some.inj e
    injection this with _ _ h3
    have := congrArg List.head? h3
    simp at this⟩
theorem PsI.ne (i : PsI CT CP H S c) : S.la ≠ S.p := fun e => by
  have h1 := i.h
  rw [← e, i.l] at h1
  cases h1
theorem PsI.mv (i : PsI CT CP H S c) (e : ExB [S.p] H H') (h : H' S.p = some (psO CP S c')) (hc : c' ≤ S.toks.length) : PsI CT CP H' S c' :=
  ⟨h, e _ _ (by simpa using i.ne) i.l, i.t.ex e i.ins_no, hc, i.z, i.ok⟩
theorem PsI.keep (i : PsI CT CP H S c) (e : Same H H') : PsI CT CP H' S c := i.mv (ExB.same e) (e _ _ i.h) i.c
theorem lft_len (h : c ≤ S.toks.length) : (lft S c).length = S.toks.length - c := by unfold lft; rw [List.length_map, List.length_drop]
theorem lft_inj (h : c ≤ S.toks.length) (h' : c' ≤ S.toks.length) (e : lft S c = lft S c') : c = c' := by
  have := congrArg List.length e
  rw [lft_len h, lft_len h'] at this
  omega
theorem lft_cons {t : Tok} (e : S.toks[c]? = some t) : lft S c = t.tx :: lft S (c + 1) := by
  unfold lft
  obtain ⟨h, rfl⟩ := List.getElem?_eq_some_iff.mp e
  rw [List.drop_eq_getElem_cons h, List.map_cons]
theorem lft_nil (h : S.toks.length ≤ c) : lft S c = [] := by unfold lft; rw [List.drop_of_length_le h]; rfl
theorem lft_cases (h : c ≤ S.toks.length) : (c = S.toks.length ∧ lft S c = []) ∨ ∃ t, S.toks[c]? = some t ∧ c < S.toks.length ∧ lft S c = t.tx :: lft S (c + 1) := by
  by_cases hc : c = S.toks.length
  · exact .inl ⟨hc, lft_nil (by omega)⟩
  · have hl : c < S.toks.length := by omega
    exact .inr ⟨_, List.getElem?_eq_getElem hl, hl, lft_cons (List.getElem?_eq_getElem hl)⟩
theorem plc_lft (h : c ≤ S.toks.length) : plc S (lft S c) = match S.toks[c]? with | some t => (t.row, t.col) | none => (S.n, 0) := by
  unfold plc
  rw [lft_len h, show S.toks.length - (S.toks.length - c) = c by omega]
theorem PsR.ex {H0 : Hp} (e : ExB [S.p] H0 H) (k : PsR CT CP CS H0 S Val res Q E) : PsR CT CP CS H S Val res Q E := by
  unfold PsR at k ⊢
  cases res with
  | no => exact k
  | ok a r => exact fun v H' c' e' => k v H' c' fun b o hb h => e' b o hb (e b o hb h)
  | err r => exact fun d H1 e' => k d H1 fun b o hb h => e' b o hb (e b o hb h)
theorem PsR.bind {β : Type} {VB : β → V → Hp → Prop} {x : Rs β} {f : β → List Str → Rs α} {H0 : Hp} {Q' : VK} (k : PsR CT CP CS H0 S Val (x.bind f) Q E) (e : ExB [S.p] H0 H)
    (h : ∀ b r v H' c', x = .ok b r → ExB [S.p] H H' → PsI CT CP H' S c' → lft S c' = r → VB b v H' → PsR CT CP CS H' S Val (f b r) Q E → Q' v H') : PsR CT CP CS H S VB x Q' E := by
  cases x with
  | no => exact k
  | ok a r => exact fun v H' c' e' i l va => h a r v H' c' rfl e' i l va (PsR.ex (fun b o hb h => e' b o hb (e b o hb h)) k)
  | err r => exact fun d H1 e' => k d H1 fun b o hb h => e' b o hb (e b o hb h)
end
def hdS : List Str → Str
  | [] => ""
  | t :: _ => t
def seF (f : Fm) : List Str → Bool
  | [] => false
  | t :: _ => decide (fmOf t = f)
def acP (x : Str) : List Str → List Str
  | [] => []
  | t :: r => if t = x then r else t :: r
abbrev ValU : Unit → V → Hp → Prop := fun _ v _ => v = .non
abbrev ValZ : Str → V → Hp → Prop := fun z v _ => v = .str z
abbrev ValX (K : PySem.W.Frag) : Ex → V → Hp → Prop := fun e v H => Dt K H v (exD e)
abbrev ValM (K : PySem.W.Frag) : Sm → V → Hp → Prop := fun s v H => Dt K H v (smD s)
abbrev ValB (K : PySem.W.Frag) : List Sm → V → Hp → Prop := fun b v H => Dt K H v (blkD b)
def spPs {α : Type} (CT CP CS : Addr) (f : List Str → Rs α) (Val : α → V → Hp → Prop) : Sp := fun vs H Q E => ∃ (S : PsC) (c : Nat), vs = [.ref S.p] ∧ PsI CT CP H S c ∧ PsR CT CP CS H S Val (f (lft S c)) Q E
def spPs1 {α : Type} (CT CP CS : Addr) (f : Str → List Str → Rs α) (Val : α → V → Hp → Prop) : Sp := fun vs H Q E => ∃ (S : PsC) (c : Nat) (x : Str), x ≠ "" ∧ vs = [.ref S.p, .str x] ∧ PsI CT CP H S c ∧ PsR CT CP CS H S Val (f x (lft S c)) Q E
def spTake (CT CP CS : Addr) : Sp := fun vs H Q E => ∃ (S : PsC) (c : Nat) (f : Fm), vs = [.ref S.p, .str f.s] ∧ PsI CT CP H S c ∧ PsR CT CP CS H S ValZ (xpF f (lft S c)) Q E
def spFailP (CT CP CS : Addr) : Sp := fun vs H Q E => ∃ (S : PsC) (c : Nat), vs = [.ref S.p] ∧ PsI CT CP H S c ∧ ∀ d, H d = none → E (.ref CS) (some d) (upd H d (sseD (plc S (lft S c)).1 (plc S (lft S c)).2))
def spPeek (CT CP : Addr) : Sp := fun vs H Q _ => ∃ (S : PsC) (c : Nat), vs = [.ref S.p] ∧ PsI CT CP H S c ∧ Q (.str (hdS (lft S c))) H
def spSees (CT CP : Addr) : Sp := fun vs H Q _ => ∃ (S : PsC) (c : Nat) (f : Fm), vs = [.ref S.p, .str f.s] ∧ PsI CT CP H S c ∧ Q (.bl (seF f (lft S c))) H
def spAcc (CT CP : Addr) : Sp := fun vs H Q _ => ∃ (S : PsC) (c : Nat) (x : Str), x ≠ "" ∧ vs = [.ref S.p, .str x] ∧ PsI CT CP H S c ∧ ∀ H' c', ExB [S.p] H H' → PsI CT CP H' S c' → lft S c' = acP x (lft S c) → Q (.bl (decide (hdS (lft S c) = x))) H'
theorem fm_s {a b : Fm} : decide (a.s = b.s) = decide (a = b) := by cases a <;> cases b <;> decide +kernel
section
variable {P : Program} {w : World} {K : PySem.W.Frag} {mg : Str → Option Value} {base : Heap} {CT CP CS : Addr}
theorem PsI.tok {H : Hp} {S : PsC} {c : Nat} {t : Tok} (i : PsI CT CP H S c) {j : Nat} (e : S.toks[j]? = some t) : ∃ a, (S.as.map V.ref)[j]? = some (.ref a) ∧ TokAt CT H a t := by
  have hj := (List.getElem?_eq_some_iff.mp e).1
  have hn := i.t.n
  have ea : S.as[j]? = some (S.as[j]'(by omega)) := List.getElem?_eq_getElem (by omega)
  exact ⟨_, by rw [List.getElem?_map, ea]; rfl, i.t.all j _ t ea e⟩
theorem PsI.start {H : Hp} {S : PsC} {c : Nat} (i : PsI CT CP H S c) : Stt [S.p] H [(S.p, psO CP S c)] [] H := Stt.start [S.p] _ H (fun p hp => by rw [List.mem_singleton.mp hp]; exact ⟨i.h, trivial⟩) rfl (by simp)
theorem ok_ps_fail (A : All K mg) (KS : KxScriptSyntaxError K mg CS) (OT : ClsOk K mg "Token" CT tkF) (O : ClsOk K mg "Parser" CP psF) (m : MetIn K CP "fail" "Parser.fail" s_Parser_fail) : CalM P w K mg base 3 CP "fail" (spFailP CT CP CS) := by
  refine calM_ofX O m sc_Parser_fail (fun _ _ _ _ _ _ us hl => match us, hl with | [_], _ => rfl) (fun vs H Q E h => ?_) (fun f cdv A' outer s H0 vs Q E hr h => ?_)
  · obtain ⟨S, c, rfl, _⟩ := h
    rfl
  · obtain ⟨S, c, rfl, i, k⟩ := h
    refine ⟨_, (pss_cons (ps_par (i := 1) (j := 2) (by rfl) sc_Parser_fail.nd rfl rfl (by decide) rfl rfl (pa_cons (k_fld (K := K) rfl (pv 0) rfl) (pa_cons pe_int pa_nil)) (by rfl))
 (pss_cons (ps_if (pt_cmpR op_lt (k_fld (K := K) rfl (pv 0) rfl) (pe_callB (id := "len") (k_len (K := K) rfl) (by rfl) A.b_len (by decide +kernel) (pa_cons (k_fld (K := K) rfl (pv 0) rfl) pa_nil)) (nomark _)) (pss_one (ps_asg (k_fld (K := K) rfl (pe_ix (k_ixL (K := K) rfl) (k_fld (K := K) rfl (pv 0) rfl) (k_fld (K := K) rfl (pv 0) rfl) (fun _ _ => rfl)) rfl) (k_tg (K := K) (n := 2) rfl rfl (pgs_cons (pg_name (i := 1) sc_Parser_fail.nd rfl (Or.inl rfl)) (pgs_cons (pg_name (i := 2) sc_Parser_fail.nd rfl (Or.inl rfl)) pgs_nil))))) pss_nil)
 (pss_one (ps_sse KS (hr.mono (by decide)) rfl (takes_of rfl rfl rfl rfl) rfl (pk_cons (pv 1) (pk_cons (pv 2) pk_nil)))))), ?_⟩
    have hn := i.t.n
    have hz := i.z
    rw [plc_lft i.c] at k
    (try (dsimp only [L2.cxOf, L2.Cx.nox, L2.Cx.wish, L2.Cx.blk]))
    walk_at "gi"
    refine ⟨_, _, _, _, _, rfl, i.h, O.cl, O.no _ (by simp [psF]), rfl, ?_⟩
    walk_at "gi"
    refine ⟨_, _, rfl, ?_⟩
    walk_at "go"
    refine i_fldV O (by simp [psF]) i.h rfl ?_
    walk_at "go"
    refine i_fldV O (by simp [psF]) i.h rfl ?_
    walk_at "go"
    refine i_lenL (xs := S.as.map V.ref) (SqL.of i.l) ?_
    walk_at "go"
    rw [List.length_map, hn]
    rcases lft_cases i.c with ⟨hc, _⟩ | ⟨t, et, hc, _⟩
    · refine ifF (decide_eq_false (by omega)) ?_
      walk_at "go"
      unfold tMkOK
      walk_at "go"
      refine sse_sp fun d nd => ?_
      rw [List.getElem?_eq_none (by omega)] at k
      exact k d nd
    · refine ifT (decide_eq_true (by omega)) ?_
      walk_at "go"
      refine i_fldV O (by simp [psF]) i.h rfl ?_
      walk_at "go"
      refine i_fldV O (by simp [psF]) i.h rfl ?_
      walk_at "go"
      obtain ⟨a, ea, dx, pl, h1, h2⟩ := i.tok et
      refine i_ixL (xs := S.as.map V.ref) (v := .ref a) (SqL.of i.l) (atI_nat ea) ?_
      walk_at "go"
      refine i_fldV OT (by simp [tkF]) h1 rfl ?_
      walk_at "go"
      refine i_gtup (xs := [.int (t.row : Nat), .int (t.col : Nat)]) (SqT.of h2) rfl ?_
      walk_at "go"
      unfold tMkOK
      walk_at "go"
      refine sse_sp fun d nd => ?_
      rw [et] at k
      exact k d nd
theorem ok_ps_peek (A : All K mg) (OT : ClsOk K mg "Token" CT tkF) (O : ClsOk K mg "Parser" CP psF) (m : MetIn K CP "peek" "Parser.peek" s_Parser_peek) : CalM P w K mg base 1 CP "peek" (spPeek CT CP) := by
  refine calM_ofX O m sc_Parser_peek (fun _ _ _ _ _ _ us hl => match us, hl with | [_], _ => rfl) (fun vs H Q E h => ?_) (fun f cdv A' outer s H0 vs Q E hr h => ?_)
  · obtain ⟨S, c, rfl, _⟩ := h
    rfl
  · obtain ⟨S, c, rfl, i, k⟩ := h
    refine ⟨_, (pss_one (ps_ret (pe_ifExp (pt_cmpR op_lt (k_fld (K := K) rfl (pv 0) rfl) (pe_callB (id := "len") (k_len (K := K) rfl) (by rfl) A.b_len (by decide +kernel) (pa_cons (k_fld (K := K) rfl (pv 0) rfl) pa_nil)) (nomark _)) (k_fld (K := K) rfl (pe_ix (k_ixL (K := K) rfl) (k_fld (K := K) rfl (pv 0) rfl) (k_fld (K := K) rfl (pv 0) rfl) (fun _ _ => rfl)) rfl) pe_str))), ?_⟩
    have hn := i.t.n
    walk_at "begin"
    refine i_fldV O (by simp [psF]) i.h rfl ?_
    walk_at "go"
    refine i_fldV O (by simp [psF]) i.h rfl ?_
    walk_at "go"
    refine i_lenL (xs := S.as.map V.ref) (SqL.of i.l) ?_
    walk_at "go"
    rw [List.length_map, hn]
    rcases lft_cases i.c with ⟨hc, e⟩ | ⟨t, et, hc, e⟩
    · refine ifF (decide_eq_false (by omega)) ?_
      walk_at "go"
      rw [e] at k
      exact k
    · refine ifT (decide_eq_true (by omega)) ?_
      walk_at "go"
      refine i_fldV O (by simp [psF]) i.h rfl ?_
      walk_at "go"
      refine i_fldV O (by simp [psF]) i.h rfl ?_
      walk_at "go"
      obtain ⟨a, ea, dx, pl, h1, h2⟩ := i.tok et
      refine i_ixL (xs := S.as.map V.ref) (v := .ref a) (SqL.of i.l) (atI_nat ea) ?_
      walk_at "go"
      refine i_fldV OT (by simp [tkF]) h1 rfl ?_
      rw [e] at k
      exact k
theorem ok_ps_sees (A : All K mg) (OT : ClsOk K mg "Token" CT tkF) (O : ClsOk K mg "Parser" CP psF) (m : MetIn K CP "sees_form" "Parser.sees_form" s_Parser_sees_form) : CalM P w K mg base 1 CP "sees_form" (spSees CT CP) := by
  refine calM_ofX O m sc_Parser_sees_form (fun _ _ _ _ _ _ us hl => match us, hl with | [_, _], _ => rfl) (fun vs H Q E h => ?_) (fun f cdv A' outer s H0 vs Q E hr h => ?_)
  · obtain ⟨S, c, fm, rfl, _⟩ := h
    rfl
  · obtain ⟨S, c, fm, rfl, i, k⟩ := h
    refine ⟨_, (pss_one (ps_ret (pe_and (pe_cmpR op_lt (k_fld (K := K) rfl (pv 0) rfl) (pe_callB (id := "len") (k_len (K := K) rfl) (by rfl) A.b_len (by decide +kernel) (pa_cons (k_fld (K := K) rfl (pv 0) rfl) pa_nil)) (nomark _)) (pe_one (pe_cmpR op_eq (k_fld (K := K) rfl (pe_ix (k_ixL (K := K) rfl) (k_fld (K := K) rfl (pv 0) rfl) (k_fld (K := K) rfl (pv 0) rfl) (fun _ _ => rfl)) rfl) (pv 1) (nomark _)))))), ?_⟩
    have hn := i.t.n
    walk_at "begin"
    refine i_fldV O (by simp [psF]) i.h rfl ?_
    walk_at "go"
    refine i_fldV O (by simp [psF]) i.h rfl ?_
    walk_at "go"
    refine i_lenL (xs := S.as.map V.ref) (SqL.of i.l) ?_
    walk_at "go"
    rw [List.length_map, hn]
    rcases lft_cases i.c with ⟨hc, e⟩ | ⟨t, et, hc, e⟩
    · refine ifF (decide_eq_false (by omega)) ?_
      rw [e] at k
      exact k
    · refine ifT (decide_eq_true (by omega)) ?_
      walk_at "go"
      refine i_fldV O (by simp [psF]) i.h rfl ?_
      walk_at "go"
      refine i_fldV O (by simp [psF]) i.h rfl ?_
      walk_at "go"
      obtain ⟨a, ea, dx, pl, h1, h2⟩ := i.tok et
      refine i_ixL (xs := S.as.map V.ref) (v := .ref a) (SqL.of i.l) (atI_nat ea) ?_
      walk_at "go"
      refine i_fldV OT (by simp [tkF]) h1 rfl ?_
      walk_at "go"
      rw [fm_s]
      rw [e] at k
      exact k
theorem ok_ps_accept (A : All K mg) (O : ClsOk K mg "Parser" CP psF) (m : MetIn K CP "accept" "Parser.accept" s_Parser_accept) (c_Parser_peek : CalM P w K mg base 1 CP "peek" (spPeek CT CP)) : CalM P w K mg base 2 CP "accept" (spAcc CT CP) := by
  refine calM_ofX O m sc_Parser_accept (fun _ _ _ _ _ _ us hl => match us, hl with | [_, _], _ => rfl) (fun vs H Q E h => ?_) (fun f cdv A' outer s H0 vs Q E hr h => ?_)
  · obtain ⟨S, c, x, hx, rfl, _⟩ := h
    rfl
  · obtain ⟨S, c, x, hx, rfl, i, k⟩ := h
    refine ⟨_, (pss_cons (ps_set (i := 2) sc_Parser_accept.nd rfl (Or.inl rfl) (pe_cmpR op_eq (pm0 c_Parser_peek hr (by omega) (pv 0)) (pv 1) (nomark _)))
 (pss_cons (ps_fldaug (pv 0) (pe_callTy (T := "int") f_intB (by rfl) A.b_int (by decide +kernel) (pa_cons (pv 2) pa_nil)) in_add)
 (pss_one (ps_ret (pv 2))))), ?_⟩
    have st := i.start
    walk_at "begin"
    refine ⟨S.p, S.dp, _, rfl, i.h, rfl, ?_⟩
    walk_at "go"
    refine ⟨S, c, rfl, i, ?_⟩
    walk_at "go"
    unfold sFldAug
    walk_at "go"
    refine ⟨S.p, CP, S.dp, _, .int (c : Nat), rfl, st.at 0 rfl, O.cl, O.no _ (by simp [psF]), rfl, ?_⟩
    walk_at "go"
    refine ⟨(c : Nat), _, rfl, rfl, S.dp, _, st.at 0 rfl, by simp, ?_⟩
    rcases lft_cases i.c with ⟨hc, e⟩ | ⟨t, et, hc, e⟩
    · rw [e] at k ⊢
      have hne : decide (hdS [] = x) = false := decide_eq_false (fun h => hx h.symm)
      rw [hne] at k ⊢
      have st := st.set 0 (o' := psO CP S c) rfl trivial
      walk_at "go"
      rw [show ((c : Nat) : Int) + (if false = true then 1 else 0) = ((c : Nat) : Int) by simp]
      exact k _ c st.ex (i.mv st.ex (st.at 0 rfl) i.c) e
    · rw [e] at k ⊢
      by_cases hq : t.tx = x
      · have hd : decide (hdS (t.tx :: lft S (c + 1)) = x) = true := decide_eq_true hq
        rw [hd] at k ⊢
        have st := st.set 0 (o' := psO CP S (c + 1)) rfl trivial
        walk_at "go"
        rw [show ((c : Nat) : Int) + (if true = true then 1 else 0) = ((c + 1 : Nat) : Int) by simp]
        exact k _ (c + 1) st.ex (i.mv st.ex (st.at 0 rfl) hc) (by rw [acP, if_pos hq])
      · have hd : decide (hdS (t.tx :: lft S (c + 1)) = x) = false := decide_eq_false hq
        rw [hd] at k ⊢
        have st := st.set 0 (o' := psO CP S c) rfl trivial
        walk_at "go"
        rw [show ((c : Nat) : Int) + (if false = true then 1 else 0) = ((c : Nat) : Int) by simp]
        exact k _ c st.ex (i.mv st.ex (st.at 0 rfl) i.c) (by rw [acP, if_neg hq, e])
theorem ok_ps_expect (A : All K mg) (O : ClsOk K mg "Parser" CP psF) (m : MetIn K CP "expect" "Parser.expect" s_Parser_expect) (c_Parser_accept : CalM P w K mg base 2 CP "accept" (spAcc CT CP)) (c_Parser_fail : CalM P w K mg base 3 CP "fail" (spFailP CT CP CS)) : CalM P w K mg base 4 CP "expect" (spPs1 CT CP CS xp ValU) := by
  refine calM_ofX O m sc_Parser_expect (fun _ _ _ _ _ _ us hl => match us, hl with | [_, _], _ => rfl) (fun vs H Q E h => ?_) (fun f cdv A' outer s H0 vs Q E hr h => ?_)
  · obtain ⟨S, c, x, hx, rfl, _⟩ := h
    rfl
  · obtain ⟨S, c, x, hx, rfl, i, k⟩ := h
    refine ⟨_, (pss_one (ps_if (pt_not (pt_val (pm c_Parser_accept hr (by omega) (pv 0) (pa_cons (pv 1) pa_nil)))) (pss_one (ps_expr (pm0X c_Parser_fail hr (by omega) (takes_of rfl rfl rfl rfl) (pv 0)))) pss_nil)), ?_⟩
    walk_at "begin"
    refine ⟨S.p, _, _, rfl, i.h, rfl, ?_⟩
    walk_at "go"
    refine ⟨S, c, x, hx, rfl, i, fun H1 c1 e1 i1 hl => ?_⟩
    by_cases hh : hdS (lft S c) = x
    · rw [decide_eq_true hh]
      refine i_bl (ifF rfl ?_)
      refine i_next ?_
      cases e : lft S c with
      | nil => rw [e] at hh; exact absurd hh.symm hx
      | cons t r =>
        rw [e] at hh hl k
        have hh : t = x := hh
        rw [xp_cons, if_pos hh] at k
        rw [acP, if_pos hh] at hl
        exact k _ _ _ e1 i1 hl rfl
    · rw [decide_eq_false hh]
      refine i_bl (ifT rfl ?_)
      walk_at "go"
      refine i_methX ?_
      walk_at "go"
      refine ⟨S.p, _, _, rfl, i1.h, rfl, ?_⟩
      walk_at "go"
      have hac : lft S c1 = lft S c := by
        rw [hl]
        cases e : lft S c with
        | nil => rfl
        | cons t r =>
          rw [e] at hh
          rw [acP, if_neg (show ¬ t = x from hh)]
      refine ⟨S, c1, rfl, i1, fun d nd => ?_⟩
      rw [hac]
      have hk : xp x (lft S c) = .err (lft S c) := by
        cases e : lft S c with
        | nil => rfl
        | cons t r =>
          rw [e] at hh
          rw [xp_cons, if_neg (show ¬ t = x from hh)]
      rw [hk] at k
      exact k d H1 e1 nd
theorem ok_ps_take (A : All K mg) (OT : ClsOk K mg "Token" CT tkF) (O : ClsOk K mg "Parser" CP psF) (m : MetIn K CP "take" "Parser.take" s_Parser_take) (c_Parser_sees_form : CalM P w K mg base 1 CP "sees_form" (spSees CT CP)) (c_Parser_fail : CalM P w K mg base 3 CP "fail" (spFailP CT CP CS)) : CalM P w K mg base 4 CP "take" (spTake CT CP CS) := by
  refine calM_ofX O m sc_Parser_take (fun _ _ _ _ _ _ us hl => match us, hl with | [_, _], _ => rfl) (fun vs H Q E h => ?_) (fun f cdv A' outer s H0 vs Q E hr h => ?_)
  · obtain ⟨S, c, fm, rfl, _⟩ := h
    rfl
  · obtain ⟨S, c, fm, rfl, i, k⟩ := h
    refine ⟨_, (pss_cons (ps_if (pt_not (pt_val (pm c_Parser_sees_form hr (by omega) (pv 0) (pa_cons (pv 1) pa_nil)))) (pss_one (ps_expr (pm0X c_Parser_fail hr (by omega) (takes_of rfl rfl rfl rfl) (pv 0)))) pss_nil)
 (pss_cons (ps_fldaug (pv 0) pe_int in_add)
 (pss_one (ps_ret (k_fld (K := K) rfl (pe_ix (k_ixL (K := K) rfl) (k_fld (K := K) rfl (pv 0) rfl) (pe_op op_sub (k_fld (K := K) rfl (pv 0) rfl) pe_int) (fun _ _ => rfl)) rfl))))), ?_⟩
    have st := i.start
    (try (dsimp only [L2.cxOf, L2.Cx.nox, L2.Cx.wish, L2.Cx.blk]))
    refine i_seq ?_
    refine i_joinI (fun σ' H' => H' = H0 ∧ σ' = [some (.ref S.p), some (.str fm.s)] ∧ ∃ t, S.toks[c]? = some t ∧ fmOf t.tx = fm) (fun N J => ?_) ?_
    · walk_at "go"
      refine ⟨S.p, _, _, rfl, i.h, rfl, ?_⟩
      walk_at "go"
      refine ⟨S, c, fm, rfl, i, ?_⟩
      have bad : seF fm (lft S c) = false → xpF fm (lft S c) = .err (lft S c) := fun h => by
        cases e : lft S c with
        | nil => rfl
        | cons t r =>
          rw [e] at h
          rw [xpF_cons, if_neg (of_decide_eq_false h)]
      cases hs : seF fm (lft S c) with
      | true =>
        refine i_bl (ifF rfl ?_)
        refine i_next ?_
        rcases lft_cases i.c with ⟨hc, e⟩ | ⟨t, et, hc, e⟩
        · rw [e] at hs; cases hs
        · rw [e] at hs
          exact J _ _ ⟨rfl, rfl, t, et, of_decide_eq_true hs⟩
      | false =>
        refine i_bl (ifT rfl ?_)
        walk_at "go"
        refine i_methX ?_
        walk_at "go"
        refine ⟨S.p, _, _, rfl, i.h, rfl, ?_⟩
        walk_at "go"
        refine ⟨S, c, rfl, i, fun d nd => ?_⟩
        rw [bad hs] at k
        exact k d H0 (ExB.same (Same.refl _)) nd
    · rintro σ H ⟨rfl, rfl, t, et, hf⟩
      have hc := (List.getElem?_eq_some_iff.mp et).1
      have e := lft_cons et
      rw [e, xpF_cons, if_pos hf] at k
      walk_at "go"
      unfold sFldAug
      walk_at "go"
      refine ⟨S.p, CP, S.dp, _, .int (c : Nat), rfl, st.at 0 rfl, O.cl, O.no _ (by simp [psF]), rfl, ?_⟩
      walk_at "go"
      refine ⟨(c : Nat), 1, rfl, rfl, S.dp, _, st.at 0 rfl, by simp, ?_⟩
      have st := st.set 0 (o' := psO CP S (c + 1)) rfl trivial
      have i1 := i.mv st.ex (st.at 0 rfl) hc
      walk_at "go"
      refine i_fldV O (by simp [psF]) i1.h rfl ?_
      walk_at "go"
      refine i_fldV O (by simp [psF]) i1.h rfl ?_
      walk_at "go"
      rw [show ((c + 1 : Nat) : Int) - 1 = ((c : Nat) : Int) by omega]
      obtain ⟨a, ea, dx, pl, h1, h2⟩ := i1.tok et
      refine i_ixL (xs := S.as.map V.ref) (v := .ref a) (SqL.of i1.l) (atI_nat ea) ?_
      walk_at "go"
      refine i_fldV OT (by simp [tkF]) h1 rfl ?_
      exact k _ _ _ st.ex i1 rfl rfl
theorem ok_ps_name (A : All K mg) (O : ClsOk K mg "Parser" CP psF) (m : MetIn K CP "take_name" "Parser.take_name" s_Parser_take_name) (c_Parser_peek : CalM P w K mg base 1 CP "peek" (spPeek CT CP)) (c_Parser_take : CalM P w K mg base 4 CP "take" (spTake CT CP CS)) (c_Parser_fail : CalM P w K mg base 3 CP "fail" (spFailP CT CP CS)) : CalM P w K mg base 5 CP "take_name" (spPs CT CP CS pName ValZ) := by
  refine calM_ofX O m sc_Parser_take_name (fun _ _ _ _ _ _ us hl => match us, hl with | [_], _ => rfl) (fun vs H Q E h => ?_) (fun f cdv A' outer s H0 vs Q E hr h => ?_)
  · obtain ⟨S, c, rfl, _⟩ := h
    rfl
  · obtain ⟨S, c, rfl, i, k⟩ := h
    obtain ⟨a_RESERVED, h_RESERVED, q_RESERVED⟩ := A.c_RESERVED
    obtain ⟨_, h_WORD⟩ := A.c_WORD
    refine ⟨_, (pss_cons (ps_if (pt_cmpR (k_in (K := K) rfl) (pm0 c_Parser_peek hr (by omega) (pv 0)) (pe_glob (v := .ref a_RESERVED) rfl h_RESERVED rfl) (by rfl)) (pss_one (ps_expr (pm0X c_Parser_fail hr (by omega) (takes_of rfl rfl rfl rfl) (pv 0)))) pss_nil)
 (pss_one (ps_ret (pmX c_Parser_take hr (by omega) (takes_of rfl rfl rfl rfl) (pv 0) (pa_cons (pe_glob (v := .str "word") rfl h_WORD ⟨_, rfl⟩) pa_nil))))), ?_⟩
    (try (dsimp only [L2.cxOf, L2.Cx.nox, L2.Cx.wish, L2.Cx.blk]))
    refine i_seq ?_
    have hres : ∀ H, SqT K H a_RESERVED (reservedL.map V.str) := q_RESERVED
    refine i_joinI (fun σ' H' => H' = H0 ∧ σ' = [some (.ref S.p)] ∧ (hdS (lft S c)) ∉ reservedL) (fun N J => ?_) ?_
    · walk_at "go"
      refine ⟨S.p, _, _, rfl, i.h, rfl, ?_⟩
      refine ⟨S, c, rfl, i, ?_⟩
      walk_at "go"
      refine i_inTs (hres _) ?_
      refine ⟨_, rfl, ?_⟩
      by_cases hz : hdS (lft S c) ∈ reservedL
      · refine ifT (decide_eq_true hz) ?_
        walk_at "go"
        refine i_methX ?_
        walk_at "go"
        refine ⟨S.p, _, _, rfl, i.h, rfl, ?_⟩
        walk_at "go"
        refine ⟨S, c, rfl, i, fun d nd => ?_⟩
        have hk : pName (lft S c) = .err (lft S c) := by
          cases e : lft S c with
          | nil => rfl
          | cons t r =>
            rw [e] at hz
            rw [pName_cons, if_pos (show t ∈ reservedL from hz)]
        rw [hk] at k
        exact k d H0 (ExB.same (Same.refl _)) nd
      · refine ifF (decide_eq_false hz) ?_
        refine i_next ?_
        exact J _ _ ⟨rfl, rfl, hz⟩
    · rintro σ H ⟨rfl, rfl, hz⟩
      walk_at "go"
      refine i_methX ?_
      walk_at "go"
      refine ⟨S.p, _, _, rfl, i.h, rfl, ?_⟩
      walk_at "go"
      refine ⟨S, c, .word, rfl, i, ?_⟩
      have hk : pName (lft S c) = xpF .word (lft S c) := by
        cases e : lft S c with
        | nil => rfl
        | cons t r =>
          rw [e] at hz
          rw [pName_cons, if_neg (show ¬ t ∈ reservedL from hz), xpF_cons]
      rw [hk] at k
      exact k
end
end Fb
namespace Fb
open PySem PySem.Spec PyProof.Rows L2 PySem.HandSPX SX
section
variable {CT CP CS : Addr} {H H' : Hp} {S : PsC} {c c' : Nat}
theorem PsI.tk (i : PsI CT CP H S c) (e : ExB [S.p] H H') : TK H H' := TK.exB e fun a ha => by
  rw [List.mem_singleton.mp ha]
  exact ⟨_, i.h, trivial⟩
theorem ExB.trans {B : List Addr} {H H1 H2 : Hp} (a : ExB B H H1) (b : ExB B H1 H2) : ExB B H H2 := fun x o hx h => b x o hx (a x o hx h)
theorem ExB.refl {B : List Addr} (H : Hp) : ExB B H H := fun _ _ _ h => h
theorem _root_.Fb.Dt.keep_of {K : PySem.W.Frag} {H H' : Hp} {v : V} {d : PyData} (h : Dt K H v d) (t : TK H H') : Dt K H' v d := Dt.keep t d v h
theorem dt_tup {K : PySem.W.Frag} {H : Hp} {q : Addr} {xs : List V} {ds : List PyData} (h : DtAll K H xs ds) (nq : H q = none) : Dt K (upd H q (.tup xs)) (.ref q) (.tuple ds) :=
  .tup (.inl upd_same) (Dt.keepAll (TK.same (Same.new nq)) _ _ h)
end
theorem proOp_some {t : Str} {o : Op} (h : proOp t = some o) : t = o.s ∧ o.lv = 2 := by
  unfold proOp at h
  split at h
  · cases h; rename_i e; exact ⟨e, rfl⟩
  · split at h
    · cases h; rename_i e; exact ⟨e, rfl⟩
    · split at h
      · cases h; rename_i e; exact ⟨e, rfl⟩
      · cases h
theorem sumOp_some {t : Str} {o : Op} (h : sumOp t = some o) : t = o.s ∧ o.lv = 1 := by
  unfold sumOp at h
  split at h
  · cases h; rename_i e; exact ⟨e, rfl⟩
  · split at h
    · cases h; rename_i e; exact ⟨e, rfl⟩
    · cases h
theorem proOp_mem {t : Str} : (t ∈ (["*", "div", "mod"] : List Str)) ↔ ∃ o, proOp t = some o := by
  constructor
  · intro h
    simp only [List.mem_cons, List.not_mem_nil, or_false] at h
    rcases h with rfl | rfl | rfl
    · exact ⟨.mul, by decide +kernel⟩
    · exact ⟨.div, by decide +kernel⟩
    · exact ⟨.mod, by decide +kernel⟩
  · rintro ⟨o, h⟩
    obtain ⟨rfl, h2⟩ := proOp_some h
    cases o <;> first | (exact absurd h2 (by decide)) | (decide +kernel)
theorem sumOp_mem {t : Str} : (t ∈ (["+", "-"] : List Str)) ↔ ∃ o, sumOp t = some o := by
  constructor
  · intro h
    simp only [List.mem_cons, List.not_mem_nil, or_false] at h
    rcases h with rfl | rfl
    · exact ⟨.add, by decide +kernel⟩
    · exact ⟨.sub, by decide +kernel⟩
  · rintro ⟨o, h⟩
    obtain ⟨rfl, h2⟩ := sumOp_some h
    cases o <;> first | (exact absurd h2 (by decide)) | (decide +kernel)
theorem proLp_cons (F : List Str → Rs Ex) (n : Nat) (e : Ex) (t : Str) (r : List Str) : proLp F (n + 1) e (t :: r) = match proOp t with
      | none => .ok e (t :: r)
      | some o => (F r).bind fun e2 r2 => proLp F n (.bin o e e2) r2 := rfl
theorem sumLp_cons (F : List Str → Rs Ex) (n : Nat) (e : Ex) (t : Str) (r : List Str) : sumLp F (n + 1) e (t :: r) = match sumOp t with
      | none => .ok e (t :: r)
      | some o => (proP F r).bind fun e2 r2 => sumLp F n (.bin o e e2) r2 := rfl
theorem op_sign {o : Op} (h : o.lv = 1) : fmOf o.s = .sign := by cases o <;> first | (exact absurd h (by decide)) | (decide +kernel)
theorem emp_pro : ("" : Str) ∉ (["*", "div", "mod"] : List Str) := by decide +kernel
theorem emp_sum : ("" : Str) ∉ (["+", "-"] : List Str) := by decide +kernel
section
variable {P : Program} {w : World} {K : PySem.W.Frag} {mg : Str → Option Value} {base : Heap} {CT CP CS : Addr}
theorem ok_ps_product (A : All K mg) (O : ClsOk K mg "Parser" CP psF) (m : MetIn K CP "parse_product" "Parser.parse_product" s_Parser_parse_product) {F : List Str → Rs Ex} {lv : Nat} (hlv : 1 ≤ lv) (c_Parser_peek : CalM P w K mg base 1 CP "peek" (spPeek CT CP)) (c_Parser_parse_factor : CalM P w K mg base lv CP "parse_factor" (spPs CT CP CS F (ValX K))) : CalM P w K mg base (lv + 1) CP "parse_product" (spPs CT CP CS (proP F) (ValX K)) := by
  refine calM_ofX O m sc_Parser_parse_product (fun _ _ _ _ _ _ us hl => match us, hl with | [_], _ => rfl) (fun vs H Q E h => ?_) (fun f cdv A' outer s H0 vs Q E hr h => ?_)
  · obtain ⟨S, c, rfl, _⟩ := h
    rfl
  · obtain ⟨S, c, rfl, i, k⟩ := h
    obtain ⟨a_PRODUCT_OPERATORS, h_PRODUCT_OPERATORS, q_P⟩ := A.c_PRODUCT_OPERATORS
    have hP : ∀ H, SqT K H a_PRODUCT_OPERATORS ((["*", "div", "mod"] : List Str).map V.str) := q_P
    refine ⟨_, (pss_cons (ps_set (i := 1) sc_Parser_parse_product.nd rfl (Or.inl rfl) (pm0X c_Parser_parse_factor hr (by omega) (takes_of rfl rfl rfl rfl) (pv 0)))
 (pss_cons (ps_while (passes_of rfl) (pt_cmpR (k_in (K := K) rfl) (pm0 c_Parser_peek hr (by omega) (pv 0)) (pe_glob (v := .ref a_PRODUCT_OPERATORS) rfl h_PRODUCT_OPERATORS rfl) (by rfl))
 (pss_cons (ps_set (i := 2) sc_Parser_parse_product.nd rfl (Or.inl rfl) (pm0 c_Parser_peek hr (by omega) (pv 0)))
 (pss_cons (ps_fldaug (pv 0) pe_int in_add)
 (pss_one (ps_set (i := 1) sc_Parser_parse_product.nd rfl (Or.inl rfl) (pe_tup (pa_cons pe_str (pa_cons (pv 2) (pa_cons (pv 1) (pa_cons (pm0X c_Parser_parse_factor hr (by omega) (takes_of rfl rfl rfl rfl) (pv 0)) pa_nil))))))))))
 (pss_one (ps_ret (pv 1))))), ?_⟩
    (try (dsimp only [L2.cxOf, L2.Cx.nox, L2.Cx.wish, L2.Cx.blk]))
    walk_at "go"
    refine i_methX ?_
    walk_at "go"
    refine ⟨S.p, _, _, rfl, i.h, rfl, ?_⟩
    walk_at "go"
    refine ⟨S, c, rfl, i, k.bind (ExB.refl _) fun e r v H1 c1 hx e1 i1 hl va k1 => ?_⟩
    subst hl
    walk_at "go"
    refine ⟨fun n σ H => ∃ v s2 e c, σ = [some (.ref S.p), some v, s2] ∧ ExB [S.p] H0 H ∧ PsI CT CP H S c ∧ Dt K H v (exD e) ∧ PsR CT CP CS H S (ValX K) (proLp F n e (lft S c)) Q E, ⟨_, v, none, e, c1, rfl, e1, i1, va, k1⟩, ?_⟩
    clear k k1 va i1 e1 hx
    rintro n σ H ⟨v, s2, e, c, rfl, e0, i, va, k⟩
    cases n with
    | zero => exact k.elim
    | succ n =>
      walk_at "go"
      refine ⟨S.p, _, _, rfl, i.h, rfl, S, c, rfl, i, ?_⟩
      walk_at "go"
      refine i_inTs (hP _) ?_
      refine ⟨_, rfl, ?_⟩
      rcases lft_cases i.c with ⟨hc, el⟩ | ⟨t, et, hc, el⟩
      · rw [el] at k ⊢
        refine ifF (decide_eq_false emp_pro) ?_
        walk_at "go"
        exact k v H c (ExB.refl _) i el va
      · rw [el] at k ⊢
        rw [proLp_cons] at k
        cases eo : proOp t.tx with
        | none =>
          refine ifF (decide_eq_false (fun h => by obtain ⟨o, h⟩ := proOp_mem.mp h; rw [show proOp (hdS (t.tx :: lft S (c + 1))) = proOp t.tx from rfl, eo] at h; cases h)) ?_
          rw [eo] at k
          walk_at "go"
          exact k v H c (ExB.refl _) i el va
        | some o =>
          obtain ⟨ht, ho⟩ := proOp_some eo
          refine ifT (decide_eq_true (proOp_mem.mpr ⟨o, eo⟩)) ?_
          rw [eo] at k
          refine ⟨fun σ H => ∃ n' < n + 1, ∃ v s2 e c, σ = [some (.ref S.p), some v, s2] ∧ ExB [S.p] H0 H ∧ PsI CT CP H S c ∧ Dt K H v (exD e) ∧ PsR CT CP CS H S (ValX K) (proLp F n' e (lft S c)) Q E, fun σ' H' h => h, ?_⟩
          walk_at "go"
          refine ⟨S.p, _, _, rfl, i.h, rfl, S, c, rfl, i, ?_⟩
          rw [el, show hdS (t.tx :: lft S (c + 1)) = o.s from ht]
          walk_at "go"
          unfold sFldAug
          walk_at "go"
          refine ⟨S.p, CP, S.dp, _, .int (c : Nat), rfl, i.h, O.cl, O.no _ (by simp [psF]), rfl, ?_⟩
          walk_at "go"
          refine ⟨(c : Nat), 1, rfl, rfl, S.dp, _, i.h, by simp, ?_⟩
          have e1 : ExB [S.p] H (upd H S.p (psO CP S (c + 1))) := exB_upd
          have i1 := i.mv e1 upd_same hc
          walk_at "go"
          refine i_methX ?_
          walk_at "go"
          refine ⟨S.p, _, _, rfl, i1.h, rfl, ?_⟩
          walk_at "go"
          refine ⟨S, c + 1, rfl, i1, PsR.bind (PsR.ex e1 k) (ExB.refl _) fun e2 r v2 H2 c2 hx e2' i2 hl va2 k2 => ?_⟩
          subst hl
          have va := va.keep_of ((i.tk e1).trans (i1.tk e2'))
          walk_at "go"
          refine ⟨sz_of (by simp), fun q nq => ?_⟩
          have e3 : Same H2 (upd H2 q _) := Same.new (o := .tup [.str "binary", .str o.s, v, v2]) nq
          walk_at "go"
          refine ⟨n, Nat.lt_succ_self _, .ref q, _, .bin o e e2, c2, rfl, ((e0.trans e1).trans e2').trans (ExB.same e3), i2.keep e3, dt_tup (.cons (.str _) (.cons (.str _) (.cons va (.cons va2 .nil)))) nq, PsR.ex (ExB.same e3) k2⟩
theorem ok_ps_sum (A : All K mg) (O : ClsOk K mg "Parser" CP psF) (m : MetIn K CP "parse_sum" "Parser.parse_sum" s_Parser_parse_sum) {F : List Str → Rs Ex} {lv : Nat} (hlv : 4 ≤ lv) (c_Parser_peek : CalM P w K mg base 1 CP "peek" (spPeek CT CP)) (c_Parser_take : CalM P w K mg base 4 CP "take" (spTake CT CP CS)) (c_Parser_parse_product : CalM P w K mg base lv CP "parse_product" (spPs CT CP CS (proP F) (ValX K))) : CalM P w K mg base (lv + 1) CP "parse_sum" (spPs CT CP CS (sumP F) (ValX K)) := by
  refine calM_ofX O m sc_Parser_parse_sum (fun _ _ _ _ _ _ us hl => match us, hl with | [_], _ => rfl) (fun vs H Q E h => ?_) (fun f cdv A' outer s H0 vs Q E hr h => ?_)
  · obtain ⟨S, c, rfl, _⟩ := h
    rfl
  · obtain ⟨S, c, rfl, i, k⟩ := h
    obtain ⟨_, h_SIGN⟩ := A.c_SIGN
    obtain ⟨a_SUM_OPERATORS, h_SUM_OPERATORS, q_P⟩ := A.c_SUM_OPERATORS
    have hP : ∀ H, SqT K H a_SUM_OPERATORS ((["+", "-"] : List Str).map V.str) := q_P
    refine ⟨_, (pss_cons (ps_set (i := 1) sc_Parser_parse_sum.nd rfl (Or.inl rfl) (pm0X c_Parser_parse_product hr (by omega) (takes_of rfl rfl rfl rfl) (pv 0)))
 (pss_cons (ps_while (passes_of rfl) (pt_cmpR (k_in (K := K) rfl) (pm0 c_Parser_peek hr (by omega) (pv 0)) (pe_glob (v := .ref a_SUM_OPERATORS) rfl h_SUM_OPERATORS rfl) (by rfl))
 (pss_cons (ps_set (i := 2) sc_Parser_parse_sum.nd rfl (Or.inl rfl) (pmX c_Parser_take hr (by omega) (takes_of rfl rfl rfl rfl) (pv 0) (pa_cons (pe_glob (v := .str "sign") rfl h_SIGN ⟨_, rfl⟩) pa_nil)))
 (pss_one (ps_set (i := 1) sc_Parser_parse_sum.nd rfl (Or.inl rfl) (pe_tup (pa_cons pe_str (pa_cons (pv 2) (pa_cons (pv 1) (pa_cons (pm0X c_Parser_parse_product hr (by omega) (takes_of rfl rfl rfl rfl) (pv 0)) pa_nil)))))))))
 (pss_one (ps_ret (pv 1))))), ?_⟩
    (try (dsimp only [L2.cxOf, L2.Cx.nox, L2.Cx.wish, L2.Cx.blk]))
    walk_at "go"
    refine i_methX ?_
    walk_at "go"
    refine ⟨S.p, _, _, rfl, i.h, rfl, ?_⟩
    walk_at "go"
    refine ⟨S, c, rfl, i, k.bind (ExB.refl _) fun e r v H1 c1 hx e1 i1 hl va k1 => ?_⟩
    subst hl
    walk_at "go"
    refine ⟨fun n σ H => ∃ v s2 e c, σ = [some (.ref S.p), some v, s2] ∧ ExB [S.p] H0 H ∧ PsI CT CP H S c ∧ Dt K H v (exD e) ∧ PsR CT CP CS H S (ValX K) (sumLp F n e (lft S c)) Q E, ⟨_, v, none, e, c1, rfl, e1, i1, va, k1⟩, ?_⟩
    clear k k1 va i1 e1 hx
    rintro n σ H ⟨v, s2, e, c, rfl, e0, i, va, k⟩
    cases n with
    | zero => exact k.elim
    | succ n =>
      walk_at "go"
      refine ⟨S.p, _, _, rfl, i.h, rfl, S, c, rfl, i, ?_⟩
      walk_at "go"
      refine i_inTs (hP _) ?_
      refine ⟨_, rfl, ?_⟩
      rcases lft_cases i.c with ⟨hc, el⟩ | ⟨t, et, hc, el⟩
      · rw [el] at k ⊢
        refine ifF (decide_eq_false emp_sum) ?_
        walk_at "go"
        exact k v H c (ExB.refl _) i el va
      · rw [el] at k ⊢
        rw [sumLp_cons] at k
        cases eo : sumOp t.tx with
        | none =>
          refine ifF (decide_eq_false (fun h => by obtain ⟨o, h⟩ := sumOp_mem.mp h; rw [show sumOp (hdS (t.tx :: lft S (c + 1))) = sumOp t.tx from rfl, eo] at h; cases h)) ?_
          rw [eo] at k
          walk_at "go"
          exact k v H c (ExB.refl _) i el va
        | some o =>
          obtain ⟨ht, ho⟩ := sumOp_some eo
          refine ifT (decide_eq_true (sumOp_mem.mpr ⟨o, eo⟩)) ?_
          rw [eo] at k
          refine ⟨fun σ H => ∃ n' < n + 1, ∃ v s2 e c, σ = [some (.ref S.p), some v, s2] ∧ ExB [S.p] H0 H ∧ PsI CT CP H S c ∧ Dt K H v (exD e) ∧ PsR CT CP CS H S (ValX K) (sumLp F n' e (lft S c)) Q E, fun σ' H' h => h, ?_⟩
          walk_at "go"
          refine i_methX ?_
          walk_at "go"
          refine ⟨S.p, _, _, rfl, i.h, rfl, ?_⟩
          walk_at "go"
          refine ⟨S, c, .sign, rfl, i, ?_⟩
          rw [el, xpF_cons, if_pos (by rw [ht]; exact op_sign ho)]
          intro vt H1 c1 e1 i1 hl1 hvt
          subst hvt
          rw [ht]
          obtain rfl : c1 = c + 1 := lft_inj i1.c hc hl1
          walk_at "go"
          refine i_methX ?_
          walk_at "go"
          refine ⟨S.p, _, _, rfl, i1.h, rfl, ?_⟩
          walk_at "go"
          refine ⟨S, c + 1, rfl, i1, PsR.bind (PsR.ex e1 k) (ExB.refl _) fun e2 r v2 H2 c2 hx e2' i2 hl va2 k2 => ?_⟩
          subst hl
          have va := va.keep_of ((i.tk e1).trans (i1.tk e2'))
          walk_at "go"
          refine ⟨sz_of (by simp), fun q nq => ?_⟩
          have e3 : Same H2 (upd H2 q _) := Same.new (o := .tup [.str "binary", .str o.s, v, v2]) nq
          walk_at "go"
          refine ⟨n, Nat.lt_succ_self _, .ref q, _, .bin o e e2, c2, rfl, ((e0.trans e1).trans e2').trans (ExB.same e3), i2.keep e3, dt_tup (.cons (.str _) (.cons (.str _) (.cons va (.cons va2 .nil)))) nq, PsR.ex (ExB.same e3) k2⟩
end
end Fb
namespace Fb
open PySem PySem.Spec PyProof.Rows L2 PySem.HandSPX SX
theorem acc_yes {l : List Str} {x : Str} (hx : x ≠ "") (h : hdS l = x) : l = x :: acP x l := by
  cases l with
  | nil => exact absurd h.symm hx
  | cons t r =>
    have h : t = x := h
    rw [acP, if_pos h, h]
theorem acc_no {l : List Str} {x : Str} (h : hdS l ≠ x) : acP x l = l := by
  cases l with
  | nil => rfl
  | cons t r => rw [acP, if_neg (show ¬ t = x from h)]
theorem num_dg {z : Str} (g : tokG (cs z)) (h : fmOf z = .number) : dgW (cs z) := by
  rcases g with g | g | g
  · rw [ltW_fm g] at h; cases h
  · exact g
  · have := sign_fm g
    rw [S_cs, h] at this
    cases this
theorem num_int {z : Str} (g : tokG (cs z)) (h : fmOf z = .number) : PySem.intText? z = some ((NumText.digitsVal (cs z) : Nat) : Int) ∧ z.length ≤ 640 := by
  obtain ⟨h1, h2, h3, _⟩ := num_dg g h
  have hl : z.length = (cs z).length := by rw [← S_cs z, S_len, S_cs]
  refine ⟨?_, by rw [hl]; omega⟩
  conv => lhs; rw [← S_cs z]
  exact int_S h1 (by intro e; rw [e] at h2; simp at h2) (by omega)
theorem facP_cons' (F : List Str → Rs Ex) (l : List Str) (hn : seF .number l = false) (h1 : hdS l ≠ "-") (h2 : hdS l ≠ "next") (h3 : hdS l ≠ "(") (h4 : hdS l ≠ "queue") (h5 : hdS l ≠ "finished") : facP F l = (pName l).bind fun s r => .ok (.name s) r := by
  cases l with
  | nil => rfl
  | cons t r =>
    rw [facP_cons, if_neg (of_decide_eq_false hn), if_neg (show ¬ t = _ from h1), if_neg (show ¬ t = _ from h2), if_neg (show ¬ t = _ from h3), if_neg (show ¬ t = _ from h4), if_neg (show ¬ t = _ from h5)]
section
variable {P : Program} {w : World} {K : PySem.W.Frag} {mg : Str → Option Value} {base : Heap} {CT CP CS : Addr}
theorem st_acc {H : Hp} {S : PsC} {c : Nat} {x : Str} {Q : VK} {E : XK} (i : PsI CT CP H S c) (hx : x ≠ "") (k1 : hdS (lft S c) = x → ∀ H' c', ExB [S.p] H H' → PsI CT CP H' S c' → lft S c = x :: lft S c' → Q (.bl true) H') (k2 : hdS (lft S c) ≠ x → ∀ H', ExB [S.p] H H' → PsI CT CP H' S c → Q (.bl false) H') : spAcc CT CP [.ref S.p, .str x] H Q E := by
  refine ⟨S, c, x, hx, rfl, i, fun H' c' e i' hl => ?_⟩
  by_cases h : hdS (lft S c) = x
  · rw [decide_eq_true h]
    exact k1 h H' c' e i' (by rw [hl]; exact acc_yes hx h)
  · rw [decide_eq_false h]
    rw [acc_no h] at hl
    obtain rfl := lft_inj i'.c i.c hl
    exact k2 h H' e i'
theorem st_expect {H : Hp} {S : PsC} {c1 : Nat} {x : Str} {σ : L2.St} {D : Ends} {α : Type} {Val : α → V → Hp → Prop} {g : List Str → Rs α} {Q' : VK} {E : XK} {u : TS} (hx : x ≠ "") (i1 : PsI CT CP H S c1) (hσ : σ[0]? = some (some (.ref S.p))) (k : PsR CT CP CS H S Val ((xp x (lft S c1)).bind fun _ r => g r) Q' E)
    (hu : ∀ H' c', ExB [S.p] H H' → PsI CT CP H' S c' → PsR CT CP CS H' S Val (g (lft S c')) Q' E → u D σ H') : tSeq (tDrop (tMeth CP "expect" (spPs1 CT CP CS xp ValU) [] E (tVar 0) (tCons (tC (.str x)) tNil))) u D σ H := by
  obtain ⟨nx, rt, bk, ct⟩ := D
  refine i_seq (i_drop (i_methX ?_))
  refine i_var hσ ?_
  refine ⟨S.p, _, _, rfl, i1.h, rfl, ?_⟩
  walk_at "go"
  refine ⟨S, c1, x, hx, rfl, i1, k.bind (ExB.refl _) fun b r v H1 c2 hxx e1 i2 hl va k1 => ?_⟩
  subst hl
  exact hu H1 c2 e1 i2 k1
theorem st_psm {H : Hp} {S : PsC} {c1 : Nat} {σ : L2.St} {α β : Type} {mt : Str} {Val : α → V → Hp → Prop} {VB : β → V → Hp → Prop} {f : List Str → Rs β} {g : β → List Str → Rs α} {Q' N : VK} {E : XK} (i1 : PsI CT CP H S c1) (hσ : σ[0]? = some (some (.ref S.p))) (hm : ([("tokens", V.ref S.la), ("cursor", .int (c1 : Nat)), ("line_count", .int (S.n : Nat))] : List (Str × V)).lookup mt = none) (k : PsR CT CP CS H S Val ((f (lft S c1)).bind g) Q' E)
    (hu : ∀ v H' c' b, ExB [S.p] H H' → PsI CT CP H' S c' → VB b v H' → PsR CT CP CS H' S Val (g b (lft S c')) Q' E → N v H') : tMeth CP mt (spPs CT CP CS f VB) [] E (tVar 0) tNil σ H N := by
  refine i_methX ?_
  refine i_var hσ ?_
  refine ⟨S.p, _, _, rfl, i1.h, hm, ?_⟩
  walk_at "go"
  refine ⟨S, c1, rfl, i1, k.bind (ExB.refl _) fun b r v H1 c2 hxx e1 i2 hl va k1 => ?_⟩
  subst hl
  exact hu v H1 c2 b e1 i2 va k1
theorem st_take {H : Hp} {S : PsC} {c1 : Nat} {σ : L2.St} {α : Type} {Val : α → V → Hp → Prop} {fm : Fm} {g : Str → List Str → Rs α} {Q' N : VK} {E : XK} (i1 : PsI CT CP H S c1) (hσ : σ[0]? = some (some (.ref S.p))) (k : PsR CT CP CS H S Val ((xpF fm (lft S c1)).bind g) Q' E)
    (hu : ∀ z H' c', ExB [S.p] H H' → PsI CT CP H' S c' → PsR CT CP CS H' S Val (g z (lft S c')) Q' E → N (.str z) H') : tMeth CP "take" (spTake CT CP CS) [] E (tVar 0) (tCons (tC (.str fm.s)) tNil) σ H N := by
  refine i_methX ?_
  refine i_var hσ ?_
  refine ⟨S.p, _, _, rfl, i1.h, rfl, ?_⟩
  walk_at "go"
  refine ⟨S, c1, fm, rfl, i1, k.bind (ExB.refl _) fun b r v H1 c2 hxx e1 i2 hl va k1 => ?_⟩
  subst hl
  subst va
  exact hu b H1 c2 e1 i2 k1
set_option maxHeartbeats 0 in
theorem ok_ps_factor (A : All K mg) (O : ClsOk K mg "Parser" CP psF) (m : MetIn K CP "parse_factor" "Parser.parse_factor" s_Parser_parse_factor) {F : List Str → Rs Ex} {lv : Nat} (hlv : 5 ≤ lv)
    (c_Parser_sees_form : CalM P w K mg base 1 CP "sees_form" (spSees CT CP)) (c_Parser_accept : CalM P w K mg base 2 CP "accept" (spAcc CT CP)) (c_Parser_expect : CalM P w K mg base 4 CP "expect" (spPs1 CT CP CS xp ValU)) (c_Parser_take : CalM P w K mg base 4 CP "take" (spTake CT CP CS)) (c_Parser_take_name : CalM P w K mg base 5 CP "take_name" (spPs CT CP CS pName ValZ))
    (c_Parser_parse_factor : CalM P w K mg base lv CP "parse_factor" (spPs CT CP CS F (ValX K))) (c_Parser_parse_sum : CalM P w K mg base lv CP "parse_sum" (spPs CT CP CS (sumP F) (ValX K))) : CalM P w K mg base (lv + 1) CP "parse_factor" (spPs CT CP CS (facP F) (ValX K)) := by
  refine calM_ofX O m sc_Parser_parse_factor (fun _ _ _ _ _ _ us hl => match us, hl with | [_], _ => rfl) (fun vs H Q E h => ?_) (fun f cdv A' outer s H0 vs Q E hr h => ?_)
  · obtain ⟨S, c, rfl, _⟩ := h
    rfl
  · obtain ⟨S, c, rfl, i, k⟩ := h
    obtain ⟨_, h_NUMBER⟩ := A.c_NUMBER
    obtain ⟨_, h_WORD⟩ := A.c_WORD
    refine ⟨_, (pss_cons (ps_if (pt_val (pm c_Parser_sees_form hr (by omega) (pv 0) (pa_cons (pe_glob (v := .str "number") rfl h_NUMBER ⟨_, rfl⟩) pa_nil))) (pss_one (ps_ret (pe_tup (pa_cons pe_str (pa_cons (pe_callTy (T := "int") call_int_str (by rfl) A.b_int (by decide +kernel) (pa_cons (pmX c_Parser_take hr (by omega) (takes_of rfl rfl rfl rfl) (pv 0) (pa_cons (pe_glob (v := .str "number") rfl h_NUMBER ⟨_, rfl⟩) pa_nil)) pa_nil)) pa_nil))))) pss_nil)
 (pss_cons (ps_if (pt_val (pm c_Parser_accept hr (by omega) (pv 0) (pa_cons pe_str pa_nil))) (pss_one (ps_ret (pe_tup (pa_cons pe_str (pa_cons (pm0X c_Parser_parse_factor hr (by omega) (takes_of rfl rfl rfl rfl) (pv 0)) pa_nil))))) pss_nil)
 (pss_cons (ps_if (pt_val (pm c_Parser_accept hr (by omega) (pv 0) (pa_cons pe_str pa_nil))) (pss_one (ps_ret (pe_tup (pa_cons pe_str pa_nil)))) pss_nil)
 (pss_cons (ps_if (pt_val (pm c_Parser_accept hr (by omega) (pv 0) (pa_cons pe_str pa_nil))) (pss_cons (ps_set (i := 1) sc_Parser_parse_factor.nd rfl (Or.inl rfl) (pm0X c_Parser_parse_sum hr (by omega) (takes_of rfl rfl rfl rfl) (pv 0)))
 (pss_cons (ps_expr (pmX c_Parser_expect hr (by omega) (takes_of rfl rfl rfl rfl) (pv 0) (pa_cons pe_str pa_nil)))
 (pss_one (ps_ret (pv 1))))) pss_nil)
 (pss_cons (ps_if (pt_val (pm c_Parser_accept hr (by omega) (pv 0) (pa_cons pe_str pa_nil))) (pss_cons (ps_expr (pmX c_Parser_expect hr (by omega) (takes_of rfl rfl rfl rfl) (pv 0) (pa_cons pe_str pa_nil)))
 (pss_cons (ps_set (i := 1) sc_Parser_parse_factor.nd rfl (Or.inl rfl) (pm0X c_Parser_parse_sum hr (by omega) (takes_of rfl rfl rfl rfl) (pv 0)))
 (pss_cons (ps_expr (pmX c_Parser_expect hr (by omega) (takes_of rfl rfl rfl rfl) (pv 0) (pa_cons pe_str pa_nil)))
 (pss_one (ps_ret (pe_tup (pa_cons pe_str (pa_cons (pv 1) pa_nil)))))))) pss_nil)
 (pss_cons (ps_if (pt_val (pm c_Parser_accept hr (by omega) (pv 0) (pa_cons pe_str pa_nil))) (pss_cons (ps_expr (pmX c_Parser_expect hr (by omega) (takes_of rfl rfl rfl rfl) (pv 0) (pa_cons pe_str pa_nil)))
 (pss_cons (ps_set (i := 2) sc_Parser_parse_factor.nd rfl (Or.inl rfl) (pmX c_Parser_take hr (by omega) (takes_of rfl rfl rfl rfl) (pv 0) (pa_cons (pe_glob (v := .str "word") rfl h_WORD ⟨_, rfl⟩) pa_nil)))
 (pss_cons (ps_expr (pmX c_Parser_expect hr (by omega) (takes_of rfl rfl rfl rfl) (pv 0) (pa_cons pe_str pa_nil)))
 (pss_one (ps_ret (pe_tup (pa_cons pe_str (pa_cons (pv 2) pa_nil)))))))) pss_nil)
 (pss_one (ps_ret (pe_tup (pa_cons pe_str (pa_cons (pm0X c_Parser_take_name hr (by omega) (takes_of rfl rfl rfl rfl) (pv 0)) pa_nil))))))))))), ?_⟩
    have call : ∀ {H : Hp} {c : Nat} {N : VK} {mt : Str} {sp : Sp} {σ : L2.St} {E' : XK}, PsI CT CP H S c → σ[0]? = some (some (.ref S.p)) → (psO CP S c = psO CP S c) → ([("tokens", V.ref S.la), ("cursor", .int (c : Nat)), ("line_count", .int (S.n : Nat))] : List (Str × V)).lookup mt = none → sp [.ref S.p] H N E' → tMeth CP mt sp [] E' (tVar 0) tNil σ H N := by
      intro H c N mt sp σ E' i hσ _ hm q
      refine i_methX ?_
      refine i_var hσ ?_
      refine ⟨S.p, _, _, rfl, i.h, hm, ?_⟩
      walk_at "go"
      exact q
    (try (dsimp only [L2.cxOf, L2.Cx.nox, L2.Cx.wish, L2.Cx.blk]))
    walk_at "go"
    refine ⟨S.p, _, _, rfl, i.h, rfl, ?_⟩
    walk_at "go"
    refine ⟨S, c, .number, rfl, i, ?_⟩
    cases hn : seF .number (lft S c) with
    | true =>
      refine i_bl (ifT rfl ?_)
      obtain ⟨t, r, el⟩ : ∃ t r, lft S c = t :: r := by
        cases el : lft S c with
        | nil => rw [el] at hn; cases hn
        | cons t r => exact ⟨t, r, rfl⟩
      have hf : fmOf t = .number := by rw [el] at hn; exact of_decide_eq_true hn
      rw [el, facP_cons, if_pos hf] at k
      walk_at "go"
      refine i_methX ?_
      walk_at "go"
      refine ⟨S.p, _, _, rfl, i.h, rfl, ?_⟩
      walk_at "go"
      refine ⟨S, c, .number, rfl, i, ?_⟩
      rw [el, xpF_cons, if_pos hf]
      rintro v H1 c1 e1 i1 hl rfl
      have g : tokG (cs t) := by
        have : t ∈ lft S c := by rw [el]; exact List.mem_cons_self ..
        obtain ⟨tk, h1, rfl⟩ := List.mem_map.mp this
        exact i.ok tk (List.mem_of_mem_drop h1)
      obtain ⟨g1, g2⟩ := num_int g hf
      walk_at "go"
      refine ⟨t, _, rfl, g1, g2, ?_⟩
      walk_at "go"
      refine ⟨sz_of (by simp), fun q nq => ?_⟩
      have e3 : Same H1 (upd H1 q _) := Same.new (o := .tup [.str "number", .int ((NumText.digitsVal (cs t) : Nat) : Int)]) nq
      exact k _ _ c1 (e1.trans (ExB.same e3)) (i1.keep e3) hl (dt_tup (.cons (.str _) (.cons (.int _) .nil)) nq)
    | false =>
      refine i_bl (ifF rfl ?_)
      have hnn : ∀ {t : Str} {r : List Str}, lft S c = t :: r → ¬ fmOf t = .number := fun e => by rw [e] at hn; exact of_decide_eq_false hn
      walk_at "go"
      refine ⟨S.p, _, _, rfl, i.h, rfl, ?_⟩
      walk_at "go"
      refine st_acc i (by decide +kernel) (fun hh H1 c1 e1 i1 el => ?_) (fun h1 H1 e1 i1 => ?_)
      · have hnum := hnn el
        rw [el, facP_cons, if_neg hnum, if_pos rfl] at k
        refine i_bl (ifT rfl ?_)
        walk_at "go"
        refine i_methX ?_
        walk_at "go"
        refine ⟨S.p, _, _, rfl, i1.h, rfl, ?_⟩
        walk_at "go"
        refine ⟨S, c1, rfl, i1, k.bind e1 fun e r v H2 c2 hx e2 i2 hl va k2 => ?_⟩
        subst hl
        walk_at "go"
        refine ⟨sz_of (by simp), fun q nq => ?_⟩
        have e3 : Same H2 (upd H2 q _) := Same.new (o := .tup [.str "negative", v]) nq
        exact k2 _ _ c2 (ExB.same e3) (i2.keep e3) rfl (dt_tup (.cons (.str _) (.cons va .nil)) nq)
      have k := PsR.ex e1 k
      refine i_bl (ifF rfl ?_)
      walk_at "go"
      refine ⟨S.p, _, _, rfl, i1.h, rfl, ?_⟩
      walk_at "go"
      refine st_acc i1 (by decide +kernel) (fun hh H2 c1 e2 i2 el => ?_) (fun h2 H2 e2 i2 => ?_)
      · have hnum := hnn el
        rw [el, facP_cons, if_neg hnum, if_neg (by decide +kernel), if_pos rfl] at k
        refine i_bl (ifT rfl ?_)
        walk_at "go"
        refine ⟨sz_of (by simp), fun q nq => ?_⟩
        have e3 : Same H2 (upd H2 q _) := Same.new (o := .tup [.str "next"]) nq
        exact k _ _ c1 (e2.trans (ExB.same e3)) (i2.keep e3) rfl (dt_tup (.cons (.str _) .nil) nq)
      have k := PsR.ex e2 k
      refine i_bl (ifF rfl ?_)
      walk_at "go"
      refine ⟨S.p, _, _, rfl, i2.h, rfl, ?_⟩
      walk_at "go"
      refine st_acc i2 (by decide +kernel) (fun hh H3 c1 e3 i3 el => ?_) (fun h3 H3 e3 i3 => ?_)
      · have hnum := hnn el
        rw [el, facP_cons, if_neg hnum, if_neg (by decide +kernel), if_neg (by decide +kernel), if_pos rfl] at k
        refine i_bl (ifT rfl ?_)
        walk_at "go"
        refine i_methX ?_
        walk_at "go"
        refine ⟨S.p, _, _, rfl, i3.h, rfl, ?_⟩
        walk_at "go"
        refine ⟨S, c1, rfl, i3, k.bind e3 fun e r v H4 c2 hx e4 i4 hl va k2 => ?_⟩
        subst hl
        refine i_name ?_
        refine st_expect (by decide +kernel) i4 rfl k2 fun H5 c3 e5 i5 k3 => ?_
        walk_at "go"
        exact k3 v H5 c3 (ExB.refl _) i5 rfl (va.keep_of (i4.tk e5))
      have k := PsR.ex e3 k
      refine i_bl (ifF rfl ?_)
      walk_at "go"
      refine ⟨S.p, _, _, rfl, i3.h, rfl, ?_⟩
      walk_at "go"
      refine st_acc i3 (by decide +kernel) (fun hh H4 c1 e4 i4 el => ?_) (fun h4 H4 e4 i4 => ?_)
      · have hnum := hnn el
        rw [el, facP_cons, if_neg hnum, if_neg (by decide +kernel), if_neg (by decide +kernel), if_neg (by decide +kernel), if_pos rfl] at k
        refine i_bl (ifT rfl ?_)
        refine st_expect (by decide +kernel) i4 rfl (PsR.ex e4 k) fun H5 c3 e5 i5 k3 => ?_
        refine i_seq (i_asg ?_)
        refine st_psm i5 rfl rfl k3 fun v H6 c4 e e6 i6 va k4 => ?_
        refine i_name ?_
        refine st_expect (by decide +kernel) i6 rfl k4 fun H7 c5 e7 i7 k5 => ?_
        have va := va.keep_of (i6.tk e7)
        walk_at "go"
        refine ⟨sz_of (by simp), fun q nq => ?_⟩
        have e8 : Same H7 (upd H7 q _) := Same.new (o := .tup [.str "queue", v]) nq
        exact k5 _ _ c5 (ExB.same e8) (i7.keep e8) rfl (dt_tup (.cons (.str _) (.cons va .nil)) nq)
      have k := PsR.ex e4 k
      refine i_bl (ifF rfl ?_)
      walk_at "go"
      refine ⟨S.p, _, _, rfl, i4.h, rfl, ?_⟩
      walk_at "go"
      refine st_acc i4 (by decide +kernel) (fun hh H5 c1 e5 i5 el => ?_) (fun h5 H5 e5 i5 => ?_)
      · have hnum := hnn el
        rw [el, facP_cons, if_neg hnum, if_neg (by decide +kernel), if_neg (by decide +kernel), if_neg (by decide +kernel), if_neg (by decide +kernel), if_pos rfl] at k
        refine i_bl (ifT rfl ?_)
        refine st_expect (by decide +kernel) i5 rfl (PsR.ex e5 k) fun H6 c3 e6 i6 k3 => ?_
        refine i_seq (i_asg ?_)
        refine st_take (fm := .word) i6 rfl k3 fun z H7 c4 e7 i7 k4 => ?_
        refine i_name ?_
        refine st_expect (by decide +kernel) i7 rfl k4 fun H8 c5 e8 i8 k5 => ?_
        walk_at "go"
        refine ⟨sz_of (by simp), fun q nq => ?_⟩
        have e9 : Same H8 (upd H8 q _) := Same.new (o := .tup [.str "finished", .str z]) nq
        exact k5 _ _ c5 (ExB.same e9) (i8.keep e9) rfl (dt_tup (.cons (.str _) (.cons (.str _) .nil)) nq)
      have k := PsR.ex e5 k
      refine i_bl (ifF rfl ?_)
      rw [facP_cons' F _ hn h1 h2 h3 h4 h5] at k
      walk_at "go"
      refine i_methX ?_
      walk_at "go"
      refine ⟨S.p, _, _, rfl, i5.h, rfl, ?_⟩
      walk_at "go"
      refine ⟨S, c, rfl, i5, k.bind (ExB.refl _) fun z r v H6 c2 hx e6 i6 hl va k2 => ?_⟩
      subst va
      walk_at "go"
      refine ⟨sz_of (by simp), fun q nq => ?_⟩
      have e7 : Same H6 (upd H6 q _) := Same.new (o := .tup [.str "name", .str z]) nq
      exact k2 _ _ c2 (ExB.same e7) (i6.keep e7) hl (dt_tup (.cons (.str _) (.cons (.str _) .nil)) nq)
end
end Fb
namespace Fb
open PySem PySem.Spec PyProof.Rows L2 PySem.HandSPX SX
def kwL : List Kw := [.arrive, .send, .leave, .print]
theorem kwL_all (k : Kw) : k ∈ kwL := by cases k <;> decide
theorem kw_ofS {t : Str} : Kw.ofS t = (kwL.find? fun k => decide (t = k.s)) := by
  unfold Kw.ofS kwL
  simp only [List.find?_cons, List.find?_nil]
  by_cases h1 : t = "arrive"
  · rw [if_pos h1, show decide (t = Kw.arrive.s) = true from decide_eq_true h1]
  · rw [if_neg h1, show decide (t = Kw.arrive.s) = false from decide_eq_false h1]
    by_cases h2 : t = "send"
    · rw [if_pos h2, show decide (t = Kw.send.s) = true from decide_eq_true h2]
    · rw [if_neg h2, show decide (t = Kw.send.s) = false from decide_eq_false h2]
      by_cases h3 : t = "leave"
      · rw [if_pos h3, show decide (t = Kw.leave.s) = true from decide_eq_true h3]
      · rw [if_neg h3, show decide (t = Kw.leave.s) = false from decide_eq_false h3]
        by_cases h4 : t = "print"
        · rw [if_pos h4, show decide (t = Kw.print.s) = true from decide_eq_true h4]
        · rw [if_neg h4, show decide (t = Kw.print.s) = false from decide_eq_false h4]
theorem kw_none {t : Str} (h : ∀ k : Kw, t ≠ k.s) : Kw.ofS t = none := by
  rw [kw_ofS, List.find?_eq_none]
  intro k _
  simpa using h k
theorem cp_mem {t : Str} : t ∈ (["<", "<=", "=", "!=", ">=", ">"] : List Str) ↔ ∃ c, Cp.ofS t = some c := by
  constructor
  · intro h
    simp only [List.mem_cons, List.not_mem_nil, or_false] at h
    rcases h with rfl | rfl | rfl | rfl | rfl | rfl
    · exact ⟨.lt, by decide +kernel⟩
    · exact ⟨.le, by decide +kernel⟩
    · exact ⟨.eq, by decide +kernel⟩
    · exact ⟨.ne, by decide +kernel⟩
    · exact ⟨.ge, by decide +kernel⟩
    · exact ⟨.gt, by decide +kernel⟩
  · rintro ⟨c, h⟩
    unfold Cp.ofS at h
    simp only [List.mem_cons, List.not_mem_nil, or_false]
    split at h
    · exact .inl (by assumption)
    · split at h
      · exact .inr (.inl (by assumption))
      · split at h
        · exact .inr (.inr (.inl (by assumption)))
        · split at h
          · exact .inr (.inr (.inr (.inl (by assumption))))
          · split at h
            · exact .inr (.inr (.inr (.inr (.inl (by assumption)))))
            · split at h
              · exact .inr (.inr (.inr (.inr (.inr (by assumption)))))
              · cases h
theorem cp_some {t : Str} {c : Cp} (h : Cp.ofS t = some c) : t = c.s := by
  unfold Cp.ofS at h
  split at h
  · cases h; assumption
  · split at h
    · cases h; assumption
    · split at h
      · cases h; assumption
      · split at h
        · cases h; assumption
        · split at h
          · cases h; assumption
          · split at h
            · cases h; assumption
            · cases h
theorem cp_sign (c : Cp) : fmOf c.s = .sign := by cases c <;> decide +kernel
theorem emp_cp : ("" : Str) ∉ (["<", "<=", "=", "!=", ">=", ">"] : List Str) := by decide +kernel
section
variable {P : Program} {w : World} {K : PySem.W.Frag} {mg : Str → Option Value} {base : Heap} {CT CP CS : Addr}
theorem ok_ps_link (A : All K mg) (O : ClsOk K mg "Parser" CP psF) (m : MetIn K CP "parse_link" "Parser.parse_link" s_Parser_parse_link) {X : List Str → Rs Ex} {lv : Nat} (hlv : 5 ≤ lv)
    (c_Parser_accept : CalM P w K mg base 2 CP "accept" (spAcc CT CP)) (c_Parser_expect : CalM P w K mg base 4 CP "expect" (spPs1 CT CP CS xp ValU)) (c_Parser_take : CalM P w K mg base 4 CP "take" (spTake CT CP CS))
    (c_Parser_parse_sum : CalM P w K mg base lv CP "parse_sum" (spPs CT CP CS X (ValX K))) : CalM P w K mg base (lv + 1) CP "parse_link" (spPs CT CP CS (linkP X) (ValM K)) := by
  refine calM_ofX O m sc_Parser_parse_link (fun _ _ _ _ _ _ us hl => match us, hl with | [_], _ => rfl) (fun vs H Q E h => ?_) (fun f cdv A' outer s H0 vs Q E hr h => ?_)
  · obtain ⟨S, c, rfl, _⟩ := h
    rfl
  · obtain ⟨S, c, rfl, i, k⟩ := h
    obtain ⟨_, h_WORD⟩ := A.c_WORD
    refine ⟨_, (pss_cons (ps_set (i := 1) sc_Parser_parse_link.nd rfl (Or.inl rfl) (pm0X c_Parser_parse_sum hr (by omega) (takes_of rfl rfl rfl rfl) (pv 0)))
 (pss_cons (ps_expr (pmX c_Parser_expect hr (by omega) (takes_of rfl rfl rfl rfl) (pv 0) (pa_cons pe_str pa_nil)))
 (pss_cons (ps_set (i := 2) sc_Parser_parse_link.nd rfl (Or.inl rfl) (pm0X c_Parser_parse_sum hr (by omega) (takes_of rfl rfl rfl rfl) (pv 0)))
 (pss_cons (ps_expr (pmX c_Parser_expect hr (by omega) (takes_of rfl rfl rfl rfl) (pv 0) (pa_cons pe_str pa_nil)))
 (pss_cons (ps_if (pt_val (pm c_Parser_accept hr (by omega) (pv 0) (pa_cons pe_str pa_nil))) (pss_one (ps_set (i := 3) sc_Parser_parse_link.nd rfl (Or.inl rfl) (pe_tup (pa_cons pe_str (pa_cons (pmX c_Parser_take hr (by omega) (takes_of rfl rfl rfl rfl) (pv 0) (pa_cons (pe_glob (v := .str "word") rfl h_WORD ⟨_, rfl⟩) pa_nil)) pa_nil))))) (pss_cons (ps_expr (pmX c_Parser_expect hr (by omega) (takes_of rfl rfl rfl rfl) (pv 0) (pa_cons pe_str pa_nil)))
 (pss_one (ps_set (i := 3) sc_Parser_parse_link.nd rfl (Or.inl rfl) (pe_tup (pa_cons pe_str (pa_cons (pm0X c_Parser_parse_sum hr (by omega) (takes_of rfl rfl rfl rfl) (pv 0)) pa_nil)))))))
 (pss_cons (ps_expr (pmX c_Parser_expect hr (by omega) (takes_of rfl rfl rfl rfl) (pv 0) (pa_cons pe_str pa_nil)))
 (pss_one (ps_ret (pe_tup (pa_cons pe_str (pa_cons (pv 1) (pa_cons (pv 2) (pa_cons (pv 3) pa_nil))))))))))))), ?_⟩
    (try (dsimp only [L2.cxOf, L2.Cx.nox, L2.Cx.wish, L2.Cx.blk]))
    refine i_seq (i_asg ?_)
    refine st_psm i rfl rfl k fun va H1 c1 ea e1 i1 da k => ?_
    refine i_name ?_
    refine st_expect (by decide +kernel) i1 rfl k fun H2 c2 e2 i2 k => ?_
    have da := da.keep_of (i1.tk e2)
    refine i_seq (i_asg ?_)
    refine st_psm i2 rfl rfl k fun vb H3 c3 eb e3 i3 db k => ?_
    have da := da.keep_of (i2.tk e3)
    refine i_name ?_
    refine st_expect (by decide +kernel) i3 rfl k fun H4 c4 e4 i4 k => ?_
    have da := da.keep_of (i3.tk e4)
    have db := db.keep_of (i3.tk e4)
    refine i_seq ?_
    refine i_joinI (fun σ' H' => ∃ c' vt t, σ' = [some (.ref S.p), some va, some vb, some vt] ∧ ExB [S.p] H4 H' ∧ PsI CT CP H' S c' ∧ Dt K H' vt (tgD t) ∧ PsR CT CP CS H' S (ValM K) ((xp ";" (lft S c')).bind fun _ r => .ok (.link ea eb t) r) Q E) (fun N J => ?_) ?_
    · walk_at "go"
      refine ⟨S.p, _, _, rfl, i4.h, rfl, ?_⟩
      walk_at "go"
      refine st_acc i4 (by decide +kernel) (fun hh H5 c5 e5 i5 el => ?_) (fun hh H5 e5 i5 => ?_)
      · refine i_bl (ifT rfl ?_)
        rw [el, show tgtP X (("port" : Str) :: lft S c5) = (xpF .word (lft S c5)).bind fun p r => .ok (.port p) r from by rw [tgtP, if_pos rfl]] at k
        have k := PsR.ex e5 k
        walk_at "go"
        refine i_methX ?_
        walk_at "go"
        refine ⟨S.p, _, _, rfl, i5.h, rfl, ?_⟩
        walk_at "go"
        refine ⟨S, c5, .word, rfl, i5, ?_⟩
        have k : PsR CT CP CS H5 S (ValM K) ((xpF .word (lft S c5)).bind fun p r => (xp ";" r).bind fun _ r => .ok (.link ea eb (.port p)) r) Q E := by
          cases hq : xpF .word (lft S c5) with
          | no => rw [hq] at k; exact k
          | err r => rw [hq] at k; exact k
          | ok a r => rw [hq] at k; exact k
        refine k.bind (ExB.refl _) fun z r v H6 c6 hx e6 i6 hl hv k => ?_
        subst hl
        subst hv
        walk_at "go"
        refine ⟨sz_of (by simp), fun q nq => ?_⟩
        have e7 : Same H6 (upd H6 q _) := Same.new (o := .tup [.str "port", .str z]) nq
        exact J _ _ ⟨c6, _, .port z, rfl, (e5.trans e6).trans (ExB.same e7), i6.keep e7, dt_tup (.cons (.str _) (.cons (.str _) .nil)) nq, PsR.ex (ExB.same e7) k⟩
      · refine i_bl (ifF rfl ?_)
        have ht : tgtP X (lft S c4) = (xp "station" (lft S c4)).bind fun _ r => (X r).bind fun e r => .ok (.station e) r := by
          cases hq : lft S c4 with
          | nil => rfl
          | cons t r =>
            rw [hq] at hh
            rw [tgtP, if_neg (show ¬ t = "port" from hh), xp_cons]
            by_cases h2 : t = "station"
            · rw [if_pos h2, if_pos h2, Rs.bind_ok]
            · rw [if_neg h2, if_neg h2, Rs.bind_err]
        rw [ht] at k
        have k : PsR CT CP CS H4 S (ValM K) ((xp "station" (lft S c4)).bind fun _ r => (X r).bind fun e r => (xp ";" r).bind fun _ r => .ok (.link ea eb (.station e)) r) Q E := by
          cases hq : xp "station" (lft S c4) with
          | no => rw [hq] at k; exact k
          | err r => rw [hq] at k; exact k
          | ok a r =>
            rw [hq] at k
            rw [Rs.bind_ok] at k ⊢
            cases hq2 : X r with
            | no => rw [hq2] at k; exact k
            | err r2 => rw [hq2] at k; exact k
            | ok a2 r2 => rw [hq2] at k; exact k
        refine st_expect (by decide +kernel) i5 rfl (PsR.ex e5 k) fun H6 c6 e6 i6 k => ?_
        walk_at "go"
        refine st_psm i6 rfl rfl k fun vt H7 c7 et e7 i7 dt k => ?_
        walk_at "go"
        refine ⟨sz_of (by simp), fun q nq => ?_⟩
        have e8 : Same H7 (upd H7 q _) := Same.new (o := .tup [.str "station", vt]) nq
        exact J _ _ ⟨c7, _, .station et, rfl, ((e5.trans e6).trans e7).trans (ExB.same e8), i7.keep e8, dt_tup (.cons (.str _) (.cons dt .nil)) nq, PsR.ex (ExB.same e8) k⟩
    · rintro σ H5 ⟨c5, vt, t, rfl, e5, i5, dt, k⟩
      have da := da.keep_of (i4.tk e5)
      have db := db.keep_of (i4.tk e5)
      refine st_expect (by decide +kernel) i5 rfl k fun H6 c6 e6 i6 k => ?_
      have da := da.keep_of (i5.tk e6)
      have db := db.keep_of (i5.tk e6)
      have dt := dt.keep_of (i5.tk e6)
      walk_at "go"
      refine ⟨sz_of (by simp), fun q nq => ?_⟩
      have e7 : Same H6 (upd H6 q _) := Same.new (o := .tup [.str "link", va, vb, vt]) nq
      refine k _ _ c6 (ExB.same e7) (i6.keep e7) rfl ?_
      show Dt K _ _ (smD _)
      rw [smD]
      exact dt_tup (.cons (.str _) (.cons da (.cons db (.cons dt .nil)))) nq
theorem ok_ps_if (A : All K mg) (O : ClsOk K mg "Parser" CP psF) (m : MetIn K CP "parse_if" "Parser.parse_if" s_Parser_parse_if) {X : List Str → Rs Ex} {B : List Str → Rs (List Sm)} {lv : Nat} (hlv : 5 ≤ lv)
    (c_Parser_peek : CalM P w K mg base 1 CP "peek" (spPeek CT CP)) (c_Parser_accept : CalM P w K mg base 2 CP "accept" (spAcc CT CP)) (c_Parser_fail : CalM P w K mg base 3 CP "fail" (spFailP CT CP CS)) (c_Parser_take : CalM P w K mg base 4 CP "take" (spTake CT CP CS))
    (c_Parser_parse_sum : CalM P w K mg base lv CP "parse_sum" (spPs CT CP CS X (ValX K))) (c_Parser_parse_block : CalM P w K mg base lv CP "parse_block" (spPs CT CP CS B (ValB K))) : CalM P w K mg base (lv + 1) CP "parse_if" (spPs CT CP CS (ifP B X) (ValM K)) := by
  refine calM_ofX O m sc_Parser_parse_if (fun _ _ _ _ _ _ us hl => match us, hl with | [_], _ => rfl) (fun vs H Q E h => ?_) (fun f cdv A' outer s H0 vs Q E hr h => ?_)
  · obtain ⟨S, c, rfl, _⟩ := h
    rfl
  · obtain ⟨S, c, rfl, i, k⟩ := h
    obtain ⟨_, h_SIGN⟩ := A.c_SIGN
    obtain ⟨a_COMPARISONS, h_COMPARISONS, q_C⟩ := A.c_COMPARISONS
    have hC : ∀ H, SqT K H a_COMPARISONS ((["<", "<=", "=", "!=", ">=", ">"] : List Str).map V.str) := q_C
    refine ⟨_, (pss_cons (ps_set (i := 1) sc_Parser_parse_if.nd rfl (Or.inl rfl) (pm0X c_Parser_parse_sum hr (by omega) (takes_of rfl rfl rfl rfl) (pv 0)))
 (pss_cons (ps_if (pt_cmpR (k_nin (K := K) rfl) (pm0 c_Parser_peek hr (by omega) (pv 0)) (pe_glob (v := .ref a_COMPARISONS) rfl h_COMPARISONS rfl) (by rfl)) (pss_one (ps_expr (pm0X c_Parser_fail hr (by omega) (takes_of rfl rfl rfl rfl) (pv 0)))) pss_nil)
 (pss_cons (ps_set (i := 2) sc_Parser_parse_if.nd rfl (Or.inl rfl) (pmX c_Parser_take hr (by omega) (takes_of rfl rfl rfl rfl) (pv 0) (pa_cons (pe_glob (v := .str "sign") rfl h_SIGN ⟨_, rfl⟩) pa_nil)))
 (pss_cons (ps_set (i := 3) sc_Parser_parse_if.nd rfl (Or.inl rfl) (pm0X c_Parser_parse_sum hr (by omega) (takes_of rfl rfl rfl rfl) (pv 0)))
 (pss_cons (ps_set (i := 4) sc_Parser_parse_if.nd rfl (Or.inl rfl) (pm0X c_Parser_parse_block hr (by omega) (takes_of rfl rfl rfl rfl) (pv 0)))
 (pss_one (ps_ret (pe_tup (pa_cons pe_str (pa_cons (pv 1) (pa_cons (pv 2) (pa_cons (pv 3) (pa_cons (pv 4) (pa_cons (pe_ifExp (pt_val (pm c_Parser_accept hr (by omega) (pv 0) (pa_cons pe_str pa_nil))) (pm0X c_Parser_parse_block hr (by omega) (takes_of rfl rfl rfl rfl) (pv 0)) (pe_tup pa_nil)) pa_nil)))))))))))))), ?_⟩
    (try (dsimp only [L2.cxOf, L2.Cx.nox, L2.Cx.wish, L2.Cx.blk]))
    refine i_seq (i_asg ?_)
    refine st_psm i rfl rfl k fun va H1 c1 ea e1 i1 da k => ?_
    refine i_name ?_
    refine i_seq ?_
    refine i_joinI (fun σ' H' => H' = H1 ∧ σ' = [some (.ref S.p), some va, none, none, none] ∧ ∃ (cp : Cp) (r : List Str), lft S c1 = cp.s :: r) (fun N J => ?_) ?_
    · walk_at "go"
      refine ⟨S.p, _, _, rfl, i1.h, rfl, S, c1, rfl, i1, ?_⟩
      walk_at "go"
      refine i_inTs (hC _) ?_
      refine ⟨_, rfl, ?_⟩
      by_cases hm : hdS (lft S c1) ∈ (["<", "<=", "=", "!=", ">=", ">"] : List Str)
      · refine ifF (by rw [if_pos rfl, decide_eq_true hm]; rfl) ?_
        refine i_next ?_
        cases hq : lft S c1 with
        | nil => rw [hq] at hm; exact absurd hm emp_cp
        | cons t r =>
          rw [hq] at hm
          obtain ⟨cp, hcp⟩ := cp_mem.mp (show t ∈ _ from hm)
          exact J _ _ ⟨rfl, rfl, cp, r, by rw [hq, cp_some hcp]⟩
      · refine ifT (by rw [if_pos rfl, decide_eq_false hm]; rfl) ?_
        walk_at "go"
        refine i_methX ?_
        walk_at "go"
        refine ⟨S.p, _, _, rfl, i1.h, rfl, ?_⟩
        walk_at "go"
        refine ⟨S, c1, rfl, i1, fun d nd => ?_⟩
        have hk : cmpP (lft S c1) = .err (lft S c1) := by
          cases hq : lft S c1 with
          | nil => rfl
          | cons t r =>
            rw [hq] at hm
            have : Cp.ofS t = none := by
              cases hcp : Cp.ofS t with
              | none => rfl
              | some cp => exact absurd (cp_mem.mpr ⟨cp, hcp⟩) hm
            rw [cmpP, this]
        rw [hk, Rs.bind_err] at k
        exact k d H1 (ExB.refl _) nd
    · rintro σ H ⟨rfl, rfl, cp, r, el⟩
      rw [el, show cmpP (cp.s :: r) = .ok cp r from by rw [cmpP, cp_back], Rs.bind_ok] at k
      walk_at "go"
      refine i_methX ?_
      walk_at "go"
      refine ⟨S.p, _, _, rfl, i1.h, rfl, ?_⟩
      walk_at "go"
      refine ⟨S, c1, .sign, rfl, i1, ?_⟩
      rw [el, xpF_cons, if_pos (cp_sign cp)]
      rintro vz H2 c2 e2 i2 hl2 rfl
      rw [← hl2] at k
      have da := da.keep_of (i1.tk e2)
      refine i_name ?_
      refine i_seq (i_asg ?_)
      refine st_psm i2 rfl rfl (PsR.ex e2 k) fun vb H3 c3 eb e3 i3 db k => ?_
      have da := da.keep_of (i2.tk e3)
      refine i_name ?_
      refine i_seq (i_asg ?_)
      refine st_psm i3 rfl rfl k fun vc H4 c4 bc e4 i4 dc k => ?_
      have da := da.keep_of (i3.tk e4)
      have db := db.keep_of (i3.tk e4)
      refine i_name ?_
      have fin : ∀ v2 H5 c5 b, ExB [S.p] H4 H5 → PsI CT CP H5 S c5 → Dt K H5 v2 (blkD b) → PsR CT CP CS H5 S (ValM K) (.ok (.ite ea cp eb bc b) (lft S c5)) Q E → ([V.str "if", va, .str cp.s, vb, vc, v2] : List V).length ≤ sizeLine ∧ ∀ p, H5 p = none → Q (.ref p) (upd H5 p (.tup [.str "if", va, .str cp.s, vb, vc, v2])) := by
        intro v2 H5 c5 b e5 i5 d2 k
        have da := da.keep_of (i4.tk e5)
        have db := db.keep_of (i4.tk e5)
        have dc := dc.keep_of (i4.tk e5)
        refine ⟨sz_of (by simp), fun q nq => ?_⟩
        have e7 : Same H5 (upd H5 q _) := Same.new (o := .tup [.str "if", va, .str cp.s, vb, vc, v2]) nq
        refine k _ _ c5 (ExB.same e7) (i5.keep e7) rfl ?_
        show Dt K _ _ (smD _)
        rw [smD]
        exact dt_tup (.cons (.str _) (.cons da (.cons (.str _) (.cons db (.cons dc (.cons d2 .nil)))))) nq
      walk_at "gi"
      refine i_ifE ?_
      walk_at "go"
      refine ⟨S.p, _, _, rfl, i4.h, rfl, ?_⟩
      walk_at "go"
      refine st_acc i4 (by decide +kernel) (fun hh H5 c5 e5 i5 el2 => ?_) (fun hh H5 e5 i5 => ?_)
      · refine i_bl (ifT rfl ?_)
        rw [el2, show elseP B (("else" : Str) :: lft S c5) = B (lft S c5) from by rw [elseP, if_pos rfl]] at k
        refine st_psm i5 rfl rfl (PsR.ex e5 k) fun v2 H6 c6 b2 e6 i6 d2 k => ?_
        walk_at "go"
        exact fin v2 H6 c6 b2 (e5.trans e6) i6 d2 k
      · refine i_bl (ifF rfl ?_)
        have he : elseP B (lft S c4) = .ok [] (lft S c4) := by
          cases hq : lft S c4 with
          | nil => rfl
          | cons t r =>
            rw [hq] at hh
            rw [elseP, if_neg (show ¬ t = "else" from hh)]
        rw [he, Rs.bind_ok] at k
        walk_at "go"
        refine ⟨sz_of (by simp), fun q nq => ?_⟩
        have e6 : Same H5 (upd H5 q _) := Same.new (o := .tup []) nq
        walk_at "go"
        exact fin (.ref q) _ c4 [] (e5.trans (ExB.same e6)) (i5.keep e6) (by
          show Dt K _ _ (.tuple (smsD []))
          rw [smsD]
          exact dt_tup .nil nq) (PsR.ex (e5.trans (ExB.same e6)) k)
end
end Fb
namespace Fb
open PySem PySem.Spec PyProof.Rows L2 PySem.HandSPX SX
theorem stm_if {B : List Str → Rs (List Sm)} {X : List Str → Rs Ex} {l : List Str} (h : ∀ k : Kw, hdS l ≠ k.s) (h1 : hdS l ≠ "link") (h2 : hdS l ≠ "let") (h3 : hdS l ≠ "repeat") : stmP B X l = (xp "if" l).bind fun _ r => ifP B X r := by
  cases l with
  | nil => rfl
  | cons t r =>
    rw [stmP_cons, kw_none (t := t) h]
    dsimp only
    rw [if_neg (show ¬ t = _ from h1), if_neg (show ¬ t = _ from h2), if_neg (show ¬ t = _ from h3), xp_cons]
    by_cases h4 : t = "if"
    · rw [if_pos h4, if_pos h4, Rs.bind_ok]
    · rw [if_neg h4, if_neg h4, Rs.bind_err]
theorem dtAll_snocM {K : PySem.W.Frag} {H : Hp} {vs : List V} {b : List Sm} {v : V} {s : Sm} (h : DtAll K H vs (smsD b)) (k : Dt K H v (smD s)) : DtAll K H (vs ++ [v]) (smsD (b ++ [s])) := by
  rw [smsD_map] at h ⊢
  rw [List.map_append]
  exact h.snoc k
theorem st_expect' {CT CP CS : Addr} {H : Hp} {S : PsC} {c1 : Nat} {x : Str} {σ : L2.St} {D : Ends} {α : Type} {Val : α → V → Hp → Prop} {g : List Str → Rs α} {Q' : VK} {E : XK} {u : TS} (hx : x ≠ "") (i1 : PsI CT CP H S c1) (hσ : σ[0]? = some (some (.ref S.p))) (k : PsR CT CP CS H S Val ((xp x (lft S c1)).bind fun _ r => g r) Q' E)
    (hu : ∀ H' c', ExB [S.p] H H' → PsI CT CP H' S c' → xp x (lft S c1) = .ok () (lft S c') → PsR CT CP CS H' S Val (g (lft S c')) Q' E → u D σ H') : tSeq (tDrop (tMeth CP "expect" (spPs1 CT CP CS xp ValU) [] E (tVar 0) (tCons (tC (.str x)) tNil))) u D σ H := by
  obtain ⟨nx, rt, bk, ct⟩ := D
  refine i_seq (i_drop (i_methX ?_))
  refine i_var hσ ?_
  refine ⟨S.p, _, _, rfl, i1.h, rfl, ?_⟩
  walk_at "go"
  refine ⟨S, c1, x, hx, rfl, i1, k.bind (ExB.refl _) fun b r v H1 c2 hxx e1 i2 hl va k1 => ?_⟩
  subst hl
  exact hu H1 c2 e1 i2 hxx k1
section
variable {P : Program} {w : World} {K : PySem.W.Frag} {mg : Str → Option Value} {base : Heap} {CT CP CS : Addr}
set_option maxHeartbeats 0 in
theorem ok_ps_statement (A : All K mg) (O : ClsOk K mg "Parser" CP psF) (m : MetIn K CP "parse_statement" "Parser.parse_statement" s_Parser_parse_statement) {X : List Str → Rs Ex} {B : List Str → Rs (List Sm)} {lv : Nat} (hlv : 5 ≤ lv)
    (c_Parser_accept : CalM P w K mg base 2 CP "accept" (spAcc CT CP)) (c_Parser_expect : CalM P w K mg base 4 CP "expect" (spPs1 CT CP CS xp ValU)) (c_Parser_take_name : CalM P w K mg base 5 CP "take_name" (spPs CT CP CS pName ValZ))
    (c_Parser_parse_sum : CalM P w K mg base lv CP "parse_sum" (spPs CT CP CS X (ValX K))) (c_Parser_parse_block : CalM P w K mg base lv CP "parse_block" (spPs CT CP CS B (ValB K))) (c_Parser_parse_link : CalM P w K mg base lv CP "parse_link" (spPs CT CP CS (linkP X) (ValM K))) (c_Parser_parse_if : CalM P w K mg base lv CP "parse_if" (spPs CT CP CS (ifP B X) (ValM K))) :
    CalM P w K mg base (lv + 1) CP "parse_statement" (spPs CT CP CS (stmP B X) (ValM K)) := by
  refine calM_ofX O m sc_Parser_parse_statement (fun _ _ _ _ _ _ us hl => match us, hl with | [_], _ => rfl) (fun vs H Q E h => ?_) (fun f cdv A' outer s H0 vs Q E hr h => ?_)
  · obtain ⟨S, c, rfl, _⟩ := h
    rfl
  · obtain ⟨S, c, rfl, i, k⟩ := h
    obtain ⟨a_SIMPLE, h_SIMPLE, q_S⟩ := A.c_SIMPLE
    have hS : ∀ H, SqT K H a_SIMPLE (kwL.map fun k => V.str k.s) := q_S
    refine ⟨_, (pss_cons (ps_for (passes_of rfl) rfl (k_pt (K := K) rfl (pe_glob (v := .ref a_SIMPLE) rfl h_SIMPLE rfl)) (pg_name (i := 1) sc_Parser_parse_statement.nd rfl (Or.inl rfl))
 (pss_one (ps_if (pt_val (pm c_Parser_accept hr (by omega) (pv 0) (pa_cons (pv 1) pa_nil))) (pss_cons (ps_set (i := 2) sc_Parser_parse_statement.nd rfl (Or.inl rfl) (pm0X c_Parser_parse_sum hr (by omega) (takes_of rfl rfl rfl rfl) (pv 0)))
 (pss_cons (ps_expr (pmX c_Parser_expect hr (by omega) (takes_of rfl rfl rfl rfl) (pv 0) (pa_cons pe_str pa_nil)))
 (pss_one (ps_ret (pe_tup (pa_cons (pv 1) (pa_cons (pv 2) pa_nil))))))) pss_nil)))
 (pss_cons (ps_if (pt_val (pm c_Parser_accept hr (by omega) (pv 0) (pa_cons pe_str pa_nil))) (pss_one (ps_ret (pm0X c_Parser_parse_link hr (by omega) (takes_of rfl rfl rfl rfl) (pv 0)))) pss_nil)
 (pss_cons (ps_if (pt_val (pm c_Parser_accept hr (by omega) (pv 0) (pa_cons pe_str pa_nil))) (pss_cons (ps_set (i := 3) sc_Parser_parse_statement.nd rfl (Or.inl rfl) (pm0X c_Parser_take_name hr (by omega) (takes_of rfl rfl rfl rfl) (pv 0)))
 (pss_cons (ps_expr (pmX c_Parser_expect hr (by omega) (takes_of rfl rfl rfl rfl) (pv 0) (pa_cons pe_str pa_nil)))
 (pss_cons (ps_set (i := 2) sc_Parser_parse_statement.nd rfl (Or.inl rfl) (pm0X c_Parser_parse_sum hr (by omega) (takes_of rfl rfl rfl rfl) (pv 0)))
 (pss_cons (ps_expr (pmX c_Parser_expect hr (by omega) (takes_of rfl rfl rfl rfl) (pv 0) (pa_cons pe_str pa_nil)))
 (pss_one (ps_ret (pe_tup (pa_cons pe_str (pa_cons (pv 3) (pa_cons (pv 2) pa_nil)))))))))) pss_nil)
 (pss_cons (ps_if (pt_val (pm c_Parser_accept hr (by omega) (pv 0) (pa_cons pe_str pa_nil))) (pss_cons (ps_set (i := 4) sc_Parser_parse_statement.nd rfl (Or.inl rfl) (pm0X c_Parser_parse_sum hr (by omega) (takes_of rfl rfl rfl rfl) (pv 0)))
 (pss_one (ps_ret (pe_tup (pa_cons pe_str (pa_cons (pv 4) (pa_cons (pm0X c_Parser_parse_block hr (by omega) (takes_of rfl rfl rfl rfl) (pv 0)) pa_nil))))))) pss_nil)
 (pss_cons (ps_expr (pmX c_Parser_expect hr (by omega) (takes_of rfl rfl rfl rfl) (pv 0) (pa_cons pe_str pa_nil)))
 (pss_one (ps_ret (pm0X c_Parser_parse_if hr (by omega) (takes_of rfl rfl rfl rfl) (pv 0))))))))), ?_⟩
    (try (dsimp only [L2.cxOf, L2.Cx.nox, L2.Cx.wish, L2.Cx.blk]))
    walk_at "go"
    refine ⟨a_SIMPLE, rfl, ⟨_, hS _⟩, ForIt.go (walk_tup (xs := kwL.map fun k => V.str k.s)) (fun j σ H => ∃ s1, σ = [some (.ref S.p), s1, none, none, none] ∧ ExB [S.p] H0 H ∧ PsI CT CP H S c ∧ ∀ kw ∈ kwL.take j, hdS (lft S c) ≠ kw.s) ⟨_, rfl, ExB.refl _, i, fun k h => by simp at h⟩ (fun _ _ _ _ _ => hS _) ?_ ?_⟩
    · rintro j v σ H H' hj ⟨s1, rfl, e0, i, hno⟩ ⟨rfl, hx⟩
      have hj : j < kwL.length := by simpa using hj
      have ek : kwL[j]? = some kwL[j] := List.getElem?_eq_getElem hj
      generalize kwL[j] = kw at ek
      obtain rfl : V.str kw.s = v := by
        have hx : (kwL.map fun k => V.str k.s)[j]? = some v := hx
        rw [List.getElem?_map, ek] at hx
        exact Option.some.inj hx
      walk_at "go"
      refine ⟨S.p, _, _, rfl, i.h, rfl, ?_⟩
      walk_at "go"
      refine st_acc i (by cases kw <;> decide +kernel) (fun hh H1 c1 e1 i1 el => ?_) (fun hh H1 e1 i1 => ?_)
      · refine i_bl (ifT rfl ?_)
        have k := PsR.ex (e0.trans e1) k
        rw [el, stmP_cons, kw_back] at k
        dsimp only at k
        walk_at "go"
        refine st_psm i1 rfl rfl k fun v H2 c2 e e2 i2 dv k => ?_
        refine i_name ?_
        refine st_expect (by decide +kernel) i2 rfl k fun H3 c3 e3 i3 k => ?_
        have dv := dv.keep_of (i2.tk e3)
        walk_at "go"
        refine ⟨sz_of (by simp), fun q nq => ?_⟩
        have e4 : Same H3 (upd H3 q _) := Same.new (o := .tup [.str kw.s, v]) nq
        refine k _ _ c3 (ExB.same e4) (i3.keep e4) rfl ?_
        show Dt K _ _ (smD _)
        rw [smD]
        exact dt_tup (.cons (.str _) (.cons dv .nil)) nq
      · refine i_bl (ifF rfl ?_)
        refine i_next ?_
        refine ⟨_, rfl, e0.trans e1, i1, fun k' hk' => ?_⟩
        rw [List.take_succ, ek] at hk'
        rcases List.mem_append.mp hk' with hk' | hk'
        · exact hno k' hk'
        · rw [List.mem_singleton.mp hk']; exact hh
    · rintro σ H ⟨s1, rfl, e0, i, hno⟩
      have hno : ∀ k : Kw, hdS (lft S c) ≠ k.s := fun k => hno k (by
        rw [show (kwL.map fun k => V.str k.s).length = kwL.length by simp, List.take_length]
        exact kwL_all k)
      have k := PsR.ex e0 k
      walk_at "go"
      refine ⟨S.p, _, _, rfl, i.h, rfl, ?_⟩
      walk_at "go"
      refine st_acc i (by decide +kernel) (fun hh H1 c1 e1 i1 el => ?_) (fun h1 H1 e1 i1 => ?_)
      · refine i_bl (ifT rfl ?_)
        have k := PsR.ex e1 k
        rw [el, stmP_cons, kw_none (by rw [el] at hno; exact hno)] at k
        dsimp only at k
        rw [if_pos rfl] at k
        walk_at "go"
        refine i_methX ?_
        walk_at "go"
        refine ⟨S.p, _, _, rfl, i1.h, rfl, ?_⟩
        walk_at "go"
        exact ⟨S, c1, rfl, i1, k⟩
      have k := PsR.ex e1 k
      refine i_bl (ifF rfl ?_)
      walk_at "go"
      refine ⟨S.p, _, _, rfl, i1.h, rfl, ?_⟩
      walk_at "go"
      refine st_acc i1 (by decide +kernel) (fun hh H2 c2 e2 i2 el => ?_) (fun h2 H2 e2 i2 => ?_)
      · refine i_bl (ifT rfl ?_)
        have k := PsR.ex e2 k
        rw [el, stmP_cons, kw_none (by rw [el] at hno; exact hno)] at k
        dsimp only at k
        rw [if_neg (by decide +kernel), if_pos rfl] at k
        refine i_seq (i_asg ?_)
        refine st_psm i2 rfl rfl k fun vn H3 c3 z e3 i3 hz k => ?_
        subst hz
        refine i_name ?_
        refine st_expect (by decide +kernel) i3 rfl k fun H4 c4 e4 i4 k => ?_
        refine i_seq (i_asg ?_)
        refine st_psm i4 rfl rfl k fun v H5 c5 e e5 i5 dv k => ?_
        refine i_name ?_
        refine st_expect (by decide +kernel) i5 rfl k fun H6 c6 e6 i6 k => ?_
        have dv := dv.keep_of (i5.tk e6)
        walk_at "go"
        refine ⟨sz_of (by simp), fun q nq => ?_⟩
        have e7 : Same H6 (upd H6 q _) := Same.new (o := .tup [.str "let", .str z, v]) nq
        refine k _ _ c6 (ExB.same e7) (i6.keep e7) rfl ?_
        show Dt K _ _ (smD _)
        rw [smD]
        exact dt_tup (.cons (.str _) (.cons (.str _) (.cons dv .nil))) nq
      have k := PsR.ex e2 k
      refine i_bl (ifF rfl ?_)
      walk_at "go"
      refine ⟨S.p, _, _, rfl, i2.h, rfl, ?_⟩
      walk_at "go"
      refine st_acc i2 (by decide +kernel) (fun hh H3 c3 e3 i3 el => ?_) (fun h3 H3 e3 i3 => ?_)
      · refine i_bl (ifT rfl ?_)
        have k := PsR.ex e3 k
        rw [el, stmP_cons, kw_none (by rw [el] at hno; exact hno)] at k
        dsimp only at k
        rw [if_neg (by decide +kernel), if_neg (by decide +kernel), if_pos rfl] at k
        refine i_seq (i_asg ?_)
        refine st_psm i3 rfl rfl k fun v H4 c4 e e4 i4 dv k => ?_
        refine i_name ?_
        walk_at "go"
        refine st_psm i4 rfl rfl k fun vb H5 c5 b e5 i5 db k => ?_
        have dv := dv.keep_of (i4.tk e5)
        walk_at "go"
        refine ⟨sz_of (by simp), fun q nq => ?_⟩
        have e6 : Same H5 (upd H5 q _) := Same.new (o := .tup [.str "repeat", v, vb]) nq
        refine k _ _ c5 (ExB.same e6) (i5.keep e6) rfl ?_
        show Dt K _ _ (smD _)
        rw [smD]
        exact dt_tup (.cons (.str _) (.cons dv (.cons db .nil))) nq
      have k := PsR.ex e3 k
      refine i_bl (ifF rfl ?_)
      rw [stm_if hno h1 h2 h3] at k
      refine st_expect (by decide +kernel) i3 rfl k fun H4 c4 e4 i4 k => ?_
      walk_at "go"
      refine i_methX ?_
      walk_at "go"
      refine ⟨S.p, _, _, rfl, i4.h, rfl, ?_⟩
      walk_at "go"
      exact ⟨S, c4, rfl, i4, k⟩
theorem ok_ps_block (A : All K mg) (O : ClsOk K mg "Parser" CP psF) (m : MetIn K CP "parse_block" "Parser.parse_block" s_Parser_parse_block) {F : List Str → Rs Sm} (hF : Shr F) {lv : Nat} (hlv : 5 ≤ lv)
    (c_Parser_accept : CalM P w K mg base 2 CP "accept" (spAcc CT CP)) (c_Parser_expect : CalM P w K mg base 4 CP "expect" (spPs1 CT CP CS xp ValU)) (c_Parser_parse_statement : CalM P w K mg base lv CP "parse_statement" (spPs CT CP CS F (ValM K))) :
    CalM P w K mg base (lv + 1) CP "parse_block" (spPs CT CP CS (blkP F) (ValB K)) := by
  refine calM_ofX O m sc_Parser_parse_block (fun _ _ _ _ _ _ us hl => match us, hl with | [_], _ => rfl) (fun vs H Q E h => ?_) (fun f cdv A' outer s H0 vs Q E hr h => ?_)
  · obtain ⟨S, c, rfl, _⟩ := h
    rfl
  · obtain ⟨S, c, rfl, i, k⟩ := h
    refine ⟨_, (pss_cons (ps_expr (pmX c_Parser_expect hr (by omega) (takes_of rfl rfl rfl rfl) (pv 0) (pa_cons pe_str pa_nil)))
 (pss_cons (ps_set (i := 1) sc_Parser_parse_block.nd rfl (Or.inl rfl) (pe_lst pa_nil))
 (pss_cons (ps_while (passes_of rfl) (pt_not (pt_val (pm c_Parser_accept hr (by omega) (pv 0) (pa_cons pe_str pa_nil))))
 (pss_one (ps_expr (pe_bm PySem.F.plainAttrs_list PySem.F.slot_list_append PySem.F.type_list_append mt_append (pv 1) (pa_cons (pm0X c_Parser_parse_statement hr (by omega) (takes_of rfl rfl rfl rfl) (pv 0)) pa_nil)))))
 (pss_one (ps_ret (pe_callTy (T := "tuple") (k_tuple (K := K) rfl) (by rfl) A.b_tuple (by decide +kernel) (pa_cons (pv 1) pa_nil))))))), ?_⟩
    (try (dsimp only [L2.cxOf, L2.Cx.nox, L2.Cx.wish, L2.Cx.blk]))
    unfold blkP at k
    have k0 := k
    refine st_expect' (by decide +kernel) i rfl k fun H1 c1 e1 i1 hxp _ => ?_
    have k : PsR CT CP CS H0 S (ValB K) (blkLp F ((lft S c1).length + 1) [] (lft S c1)) Q E := by rw [hxp, Rs.bind_ok] at k0; exact k0
    have st : Stt [S.p] H1 [(S.p, psO CP S c1)] [] H1 := i1.start
    walk_at "go"
    refine st_newLB st (by simp) fun bl nbl st => ?_
    have e2 : Same H1 (upd H1 bl (.lst [])) := Same.new nbl
    have i2 := i1.keep e2
    walk_at "go"
    refine ⟨fun n σ H => ∃ c vs b, σ = [some (.ref S.p), some (.ref bl)] ∧ ExB [S.p] H0 H ∧ Stt [S.p] H1 [(S.p, psO CP S c), (bl, .lst vs)] [fun H => DtAll K H vs (smsD b)] H ∧ PsI CT CP H S c ∧ b.length + (lft S c).length ≤ S.toks.length ∧ PsR CT CP CS H0 S (ValB K) (blkLp F n b (lft S c)) Q E,
      ⟨_, c1, [], [], rfl, e1.trans (ExB.same e2), (show Stt [S.p] H1 [(S.p, psO CP S c1), (bl, .lst [])] [] _ from st).know (by rw [smsD]; exact .nil) Pers.all, i2, by rw [lft_len i2.c]; simp, k⟩, ?_⟩
    clear k i2 e2 st
    rintro n σ H ⟨c, vs, b, rfl, e0, st, i, hbl, k⟩
    cases n with
    | zero => exact k.elim
    | succ n =>
      walk_at "go"
      refine ⟨S.p, _, _, rfl, i.h, rfl, ?_⟩
      walk_at "go"
      have hda : DtAll K H vs (smsD b) := st.pers 0 rfl
      have hvl : vs.length = b.length := by rw [hda.len, smsD_map, List.length_map]
      have hz := i.z
      have hbn : bl ≠ S.p := fun e => by
        have := st.at 1 rfl
        rw [e, st.at 0 rfl] at this
        cases this
      refine st_acc i (by decide +kernel) (fun hh H2 c2 e2 i2 el => ?_) (fun hh H2 e2 i2 => ?_)
      · refine i_bl (ifF rfl ?_)
        rw [el, blkLp_cons, if_pos rfl] at k
        have hbl2 : H2 bl = some (.lst vs) := e2 bl _ (by simpa using hbn) (st.at 1 rfl)
        have hda := Dt.keepAll (i.tk e2) _ _ hda
        walk_at "go"
        refine ⟨bl, vs, rfl, .inl ⟨SqL.of hbl2, fun q nq => ?_⟩⟩
        have e3 : Same H2 (upd H2 q (.tup vs)) := Same.new nq
        exact k _ _ c2 ((e0.trans e2).trans (ExB.same e3)) (i2.keep e3) rfl (dt_tup hda nq)
      · refine i_bl (ifT rfl ?_)
        have hk : blkLp F (n + 1) b (lft S c) = (F (lft S c)).bind fun s r => blkLp F n (b ++ [s]) r := by
          cases hq : lft S c with
          | nil => rfl
          | cons t r =>
            rw [hq] at hh
            rw [blkLp_cons, if_neg (show ¬ t = "}" from hh)]
        rw [hk] at k
        have st2 : Stt [S.p] H1 [(S.p, psO CP S c), (bl, .lst vs)] [fun H => DtAll K H vs (smsD b)] H2 := Stt.upds (L1 := [(S.p, psO CP S c)]) (L1' := [(S.p, psO CP S c)]) st rfl e2 (fun p hp => by rw [List.mem_singleton.mp hp]; exact i2.h) (fun p hp => by rw [List.mem_singleton.mp hp]; trivial)
        refine ⟨fun σ H => ∃ n' < n + 1, ∃ c vs b, σ = [some (.ref S.p), some (.ref bl)] ∧ ExB [S.p] H0 H ∧ Stt [S.p] H1 [(S.p, psO CP S c), (bl, .lst vs)] [fun H => DtAll K H vs (smsD b)] H ∧ PsI CT CP H S c ∧ b.length + (lft S c).length ≤ S.toks.length ∧ PsR CT CP CS H0 S (ValB K) (blkLp F n' b (lft S c)) Q E, fun σ' H' h => h, ?_⟩
        walk_at "go"
        refine i_tyL (st2.sqL 1 rfl) ?_
        walk_at "go"
        refine i_methX ?_
        walk_at "go"
        refine ⟨S.p, _, _, rfl, i2.h, rfl, ?_⟩
        walk_at "go"
        refine ⟨S, c, rfl, i2, (PsR.ex (e0.trans e2) k).bind (ExB.refl _) fun s r v H3 c3 hx e3 i3 hl dv k3 => ?_⟩
        subst hl
        have hsh := hF _ _ _ hx
        have st3 : Stt [S.p] H1 [(S.p, psO CP S c3), (bl, .lst vs)] [fun H => DtAll K H vs (smsD b)] H3 := Stt.upds (L1 := [(S.p, psO CP S c)]) (L1' := [(S.p, psO CP S c3)]) st2 rfl e3 (fun p hp => by rw [List.mem_singleton.mp hp]; exact i3.h) (fun p hp => by rw [List.mem_singleton.mp hp]; trivial)
        walk_at "go"
        refine ⟨bl, vs, v, rfl, rfl, st3.at 1 rfl, szBlt (by omega), ?_⟩
        have hda3 : DtAll K H3 vs (smsD b) := st3.pers 0 rfl
        have st4 := (st3.know (dtAll_snocM hda3 dv) Pers.all).set 1 (o' := .lst (vs ++ [v])) rfl trivial
        have st5 : Stt [S.p] H1 [(S.p, psO CP S c3), (bl, .lst (vs ++ [v]))] [fun H => DtAll K H (vs ++ [v]) (smsD (b ++ [s]))] (upd H3 bl (.lst (vs ++ [v]))) := st4.only [1] rfl
        have hblno : H3 bl = some (.lst vs) := st3.at 1 rfl
        have i5 : PsI CT CP (upd H3 bl (.lst (vs ++ [v]))) S c3 := by
          have hla : S.la ≠ bl := fun e => by
            have := i1.l
            rw [e] at this
            rw [nbl] at this
            cases this
          exact ⟨st5.at 0 rfl, by rw [upd_ne hla]; exact i3.l, i3.t.ex exB_upd (lst_no hblno), i3.c, i3.z, i3.ok⟩
        refine ⟨n, Nat.lt_succ_self _, c3, vs ++ [v], b ++ [s], rfl, ?_, st5, i5, by rw [List.length_append, List.length_singleton]; omega, ?_⟩
        · intro a o ha h
          have hne : a ≠ bl := fun e => by
            have := e1 a o ha h
            rw [e, nbl] at this
            cases this
          rw [upd_ne hne]
          exact e3 a o ha (e2 a o ha (e0 a o ha h))
        · rw [hx, Rs.bind_ok] at k
          exact k
end
end Fb
namespace Fb
open PySem PySem.Spec PyProof.Rows L2 PySem.HandSPX SX
theorem lexTok_G {l t : List Nat} (h : lexTok l = some t) : tokG t := by
  unfold lexTok at h
  split at h
  · rename_i h1
    cases h
    exact .inl ⟨List.all_takeWhile, h1.1, h1.2⟩
  · split at h
    · rename_i h1
      cases h
      exact .inr (.inl ⟨List.all_takeWhile, h1.1.1, h1.1.2, h1.2⟩)
    · exact .inr (.inr (List.mem_of_find?_eq_some h))
theorem lexLn_G : ∀ (n row col : Nat) (acc : List Tok) (l : List Nat) (toks : List Tok), lexLn n row col acc l = .ok toks → toks.length ≤ acc.length + l.length ∧ ((∀ t ∈ acc, tokG (cs t.tx)) → ∀ t ∈ toks, tokG (cs t.tx)) := by
  intro n
  induction n with
  | zero => intro row col acc l toks h; cases h; exact ⟨by omega, fun h => h⟩
  | succ n ih =>
    intro row col acc l toks h
    cases l with
    | nil => cases h; exact ⟨by omega, fun h => h⟩
    | cons c r =>
      rw [lexLn] at h
      split at h
      · cases h; exact ⟨by omega, fun h => h⟩
      · split at h
        · obtain ⟨h1, h2⟩ := ih _ _ _ _ _ h
          exact ⟨by simp only [List.length_cons]; omega, h2⟩
        · split at h
          · cases h
          · rename_i t e
            obtain ⟨h1, h2⟩ := ih _ _ _ _ _ h
            have := (lexTok_pos e).1
            refine ⟨by
              rw [List.length_append, List.length_singleton, List.length_drop] at h1
              simp only [List.length_cons] at h1 ⊢
              omega, fun hg => h2 fun q hq => ?_⟩
            rcases List.mem_append.mp hq with hq | hq
            · exact hg q hq
            · rw [List.mem_singleton.mp hq]
              exact lexTok_G e
theorem lexLs_G : ∀ (ls : List (List Nat)) (row : Nat) (acc toks : List Tok), lexLs row acc ls = .ok toks → toks.length ≤ acc.length + ls.flatten.length ∧ ((∀ t ∈ acc, tokG (cs t.tx)) → ∀ t ∈ toks, tokG (cs t.tx)) := by
  intro ls
  induction ls with
  | nil => intro row acc toks h; cases h; exact ⟨by simp, fun h => h⟩
  | cons l ls ih =>
    intro row acc toks h
    rw [lexLs] at h
    split at h
    · rename_i acc1 e
      obtain ⟨h1, h2⟩ := lexLn_G _ _ _ _ _ _ e
      obtain ⟨h3, h4⟩ := ih _ _ _ h
      exact ⟨by rw [List.flatten_cons, List.length_append]; omega, fun h => h4 (h2 h)⟩
    · cases h
theorem lexAll_G {l : List Nat} {toks : List Tok} (h : lexAll l = .ok toks) : toks.length ≤ l.length ∧ ∀ t ∈ toks, tokG (cs t.tx) := by
  obtain ⟨h1, h2⟩ := lexLs_G _ _ _ _ h
  have := spN_flat l
  refine ⟨by simp at h1; simp at this; omega, h2 fun t ht => nomatch ht⟩
theorem blkLp_len {F : List Str → Rs Sm} (hF : Shr F) : ∀ n b ts a r, blkLp F n b ts = .ok a r → r.length < ts.length := by
  intro n
  induction n with
  | zero => intro b ts a r h; cases h
  | succ n ih =>
    intro b ts a r h
    unfold blkLp at h
    split at h
    · obtain ⟨s, r1, h1, h2⟩ := bind_inv h
      have := hF _ _ _ h1
      have := ih _ _ _ _ h2
      simp at *
    · split at h
      · cases h; simp
      · obtain ⟨s, r1, h1, h2⟩ := bind_inv h
        have := hF _ _ _ h1
        have := ih _ _ _ _ h2
        omega
theorem blkP_shr {F : List Str → Rs Sm} (hF : Shr F) : Shr (blkP F) := fun ts a r h => by
  unfold blkP at h
  obtain ⟨u, r1, h1, h2⟩ := bind_inv h
  have := xp_len h1
  have := blkLp_len hF _ _ _ _ _ h2
  omega
theorem tgtP_len {X : List Str → Rs Ex} (hX : Shr X) {ts r : List Str} {t : Tg} (h : tgtP X ts = .ok t r) : r.length < ts.length := by
  unfold tgtP at h
  split at h
  · cases h
  · split at h
    · obtain ⟨u, r1, h1, h2⟩ := bind_inv h
      have := xpF_len h1
      cases h2
      simp only [List.length_cons]; omega
    · split at h
      · obtain ⟨u, r1, h1, h2⟩ := bind_inv h
        have := hX _ _ _ h1
        cases h2
        simp only [List.length_cons]; omega
      · cases h
theorem cmpP_len {ts r : List Str} {c : Cp} (h : cmpP ts = .ok c r) : r.length < ts.length := by
  unfold cmpP at h
  split at h
  · cases h
  · split at h
    · cases h
    · cases h; simp
theorem elseP_len {B : List Str → Rs (List Sm)} (hB : Shr B) {ts r : List Str} {b : List Sm} (h : elseP B ts = .ok b r) : r.length ≤ ts.length := by
  unfold elseP at h
  split at h
  · cases h; simp
  · split at h
    · have := hB _ _ _ h; simp only [List.length_cons]; omega
    · cases h; simp
theorem stmP_shr {B : List Str → Rs (List Sm)} {X : List Str → Rs Ex} (hB : Shr B) (hX : Shr X) : Shr (stmP B X) := fun ts a r h => by
  unfold stmP at h
  split at h
  · cases h
  · split at h
    · obtain ⟨e, r1, h1, h2⟩ := bind_inv h
      obtain ⟨u, r2, h3, h4⟩ := bind_inv h2
      have := hX _ _ _ h1
      have := xp_len h3
      cases h4
      simp only [List.length_cons]; omega
    · split at h
      · unfold linkP at h
        obtain ⟨e, r1, h1, h⟩ := bind_inv h
        obtain ⟨u, r2, h2, h⟩ := bind_inv h
        obtain ⟨e, r3, h3, h⟩ := bind_inv h
        obtain ⟨u, r4, h4, h⟩ := bind_inv h
        obtain ⟨t, r5, h5, h⟩ := bind_inv h
        obtain ⟨u, r6, h6, h⟩ := bind_inv h
        have := hX _ _ _ h1
        have := xp_len h2
        have := hX _ _ _ h3
        have := xp_len h4
        have := tgtP_len hX h5
        have := xp_len h6
        cases h
        simp only [List.length_cons]; omega
      · split at h
        · obtain ⟨e, r1, h1, h⟩ := bind_inv h
          obtain ⟨u, r2, h2, h⟩ := bind_inv h
          obtain ⟨e, r3, h3, h⟩ := bind_inv h
          obtain ⟨u, r4, h4, h⟩ := bind_inv h
          have := pName_len h1
          have := xp_len h2
          have := hX _ _ _ h3
          have := xp_len h4
          cases h
          simp only [List.length_cons]; omega
        · split at h
          · obtain ⟨e, r1, h1, h⟩ := bind_inv h
            obtain ⟨u, r2, h2, h⟩ := bind_inv h
            have := hX _ _ _ h1
            have := hB _ _ _ h2
            cases h
            simp only [List.length_cons]; omega
          · split at h
            · unfold ifP at h
              obtain ⟨e, r1, h1, h⟩ := bind_inv h
              obtain ⟨u, r2, h2, h⟩ := bind_inv h
              obtain ⟨e, r3, h3, h⟩ := bind_inv h
              obtain ⟨u, r4, h4, h⟩ := bind_inv h
              obtain ⟨u, r5, h5, h⟩ := bind_inv h
              have := hX _ _ _ h1
              have := cmpP_len h2
              have := hX _ _ _ h3
              have := hB _ _ _ h4
              have := elseP_len hB h5
              cases h
              simp only [List.length_cons]; omega
            · cases h
theorem pSum_shr (d : Nat) : Shr (pSum d) := sumP_shr (pFac_shr d)
theorem pStm_shr (D : Nat) : ∀ d, Shr (pStm D d)
  | 0 => fun ts a r h => by cases h
  | d + 1 => stmP_shr (blkP_shr (pStm_shr D d)) (pSum_shr D)
def plcT (toks : List Tok) (n : Nat) (r : List Str) : Nat × Nat := match toks[toks.length - r.length]? with
  | some t => (t.row, t.col)
  | none => (n, 0)
def parseT (D d : Nat) (l : List Nat) : Option (Except (Nat × Nat) (List Sm)) := match lexAll l with
  | .error e => some (.error e)
  | .ok toks => match pScr D d (toks.map (·.tx)) with
    | .no => none
    | .ok b _ => some (.ok b)
    | .err r => some (.error (plcT toks (spN l).length r))
def spParse (K : PySem.W.Frag) (CS : Addr) (D d : Nat) : Sp := fun vs H Q E => ∃ l : List Nat, vs = [.str (S l)] ∧ l.length ≤ 15000000 ∧
  match parseT D d l with
  | none => False
  | some (.ok b) => ∀ v H', Same H H' → Dt K H' v (blkD b) → Q v H'
  | some (.error e) => ∀ dd H1, Same H H1 → H1 dd = none → E (.ref CS) (some dd) (upd H1 dd (sseD e.1 e.2))
def spPsI (CT CP CS : Addr) : Sp := fun vs H Q E => ∃ (n dn : Addr) (l : List Nat), vs = [.ref n, .str (S l)] ∧ H n = some (.ins CP dn []) ∧ l.length ≤ 15000000 ∧
  match lexAll l with
  | .ok toks => ∀ la as H', ExB [n] H H' → PsI CT CP H' ⟨n, dn, la, as, toks, (spN l).length⟩ 0 → Q .non H'
  | .error e => ∀ d H1, ExB [n] H H1 → H1 d = none → E (.ref CS) (some d) (upd H1 d (sseD e.1 e.2))
theorem ins_no {CT : Addr} {H : Hp} {n C dn : Addr} {fs : List (Str × V)} (h : H n = some (.ins C dn fs)) (hf : ∀ (t : Tok) (pl : Addr), fs ≠ tokFs t pl) : ∀ b ∈ [n], (∀ xs, H b ≠ some (.tup xs)) ∧ ∀ dx t pl, H b ≠ some (.ins CT dx (tokFs t pl)) := fun b hb => by
  rw [List.mem_singleton.mp hb, h]
  exact ⟨fun xs e => (by cases e), fun dx t pl e => by
    have := Option.some.inj e
    injection this with _ _ h3
    exact hf t pl h3⟩
section
variable {P : Program} {w : World} {K : PySem.W.Frag} {mg : Str → Option Value} {base : Heap} {CT CP CS : Addr}
theorem ok_ps_init (A : All K mg) (O : ClsOk K mg "Parser" CP psF) (m : MkIn K CP "Parser.__init__" s_Parser___init) (c_tokenize : Cal P w K mg base 4 "tokenize" (spTokz CT CS)) : CalK P w K mg base 5 "Parser" CP (spPsI CT CP CS) := by
  refine calK_ofX O m sc_Parser___init (fun _ _ _ _ _ _ us hl => match us, hl with | [_, _], _ => rfl) (fun vs H Q E h => ?_) (fun f cdv A' outer s H0 vs Q E hr h => ?_)
  · obtain ⟨n, dn, l, rfl, _⟩ := h
    rfl
  · obtain ⟨n, dn, l, rfl, h0, hl, k⟩ := h
    refine ⟨_, (pss_cons (k_sfld (K := K) rfl (pv 0) (pcX c_tokenize hr (by decide) (takes_of rfl rfl rfl rfl) (pa_cons (pv 1) pa_nil)))
 (pss_cons (k_sfld (K := K) rfl (pv 0) pe_int)
 (pss_one (k_sfld (K := K) rfl (pv 0) (pe_callB (id := "len") (k_len (K := K) rfl) (by rfl) A.b_len (by decide +kernel) (pa_cons (pe_bm PySem.F.plainAttrs_str PySem.F.slot_str_split PySem.F.type_str_split mt_split (pv 1) (pa_cons pe_str pa_nil)) pa_nil)))))), ?_⟩
    have st : Stt [n] H0 [(n, .ins CP dn [])] [] H0 := Stt.start [n] _ H0 (fun p hp => by rw [List.mem_singleton.mp hp]; exact ⟨h0, trivial⟩) rfl (by simp)
    walk_at "begin"
    refine ⟨l, rfl, hl, ?_⟩
    cases el : lexAll l with
    | error e =>
      rw [el] at k
      exact fun d H1 e1 nd => k d H1 (ExB.same e1) nd
    | ok toks =>
      rw [el] at k
      intro la as H1 e1 nla hla tks
      have st := st.ext e1
      have hnla : n ≠ la := fun e => by rw [← e, h0] at nla; cases nla
      walk_at "go"
      refine ⟨n, CP, dn, _, rfl, st.at 0 rfl, O.cl, O.no _ (by simp [psF]), (by simp), ?_⟩
      have tks := tks.ex (exB_upd (l := n) (o := .ins CP dn [("tokens", .ref la)])) (ins_no (st.at 0 rfl) fun t pl e => by have := congrArg List.head? e; simp [putF] at this)
      have st := st.set 0 (o' := .ins CP dn [("tokens", .ref la)]) rfl trivial
      walk_at "go"
      refine ⟨n, CP, dn, _, rfl, st.at 0 rfl, O.cl, O.no _ (by simp [psF]), (by simp), ?_⟩
      have tks := tks.ex (exB_upd (l := n) (o := .ins CP dn [("tokens", .ref la), ("cursor", .int 0)])) (ins_no (st.at 0 rfl) fun t pl e => by have := congrArg List.head? e; simp [putF] at this)
      have st := st.set 0 (o' := .ins CP dn [("tokens", .ref la), ("cursor", .int 0)]) rfl trivial
      walk_at "go"
      refine i_tyS ?_
      walk_at "go"
      refine ⟨S l, "\n", rfl, rfl, by decide +kernel, szB (by rw [S_len]; omega), fun ll nll => ?_⟩
      rw [show ("\n" : Str) = S [10] by decide +kernel, split_S (by simp) (by simp), spl1_spN]
      have tks := tks.same (Same.new (o := .lst (((spN l).map S).map V.str)) nll)
      have st := st.new (o := .lst (((spN l).map S).map V.str)) nll trivial
      walk_at "go"
      refine i_lenL (xs := ((spN l).map S).map V.str) (st.sqL 1 rfl) ?_
      walk_at "go"
      refine ⟨n, CP, dn, _, rfl, st.at 0 rfl, O.cl, O.no _ (by simp [psF]), (by simp), ?_⟩
      have hs : ((((spN l).map S).map V.str).length : Int) = ((spN l).length : Nat) := by simp
      rw [hs]
      have tks := tks.ex (exB_upd (l := n) (o := .ins CP dn [("tokens", .ref la), ("cursor", .int 0), ("line_count", .int ((spN l).length : Nat))])) (ins_no (st.at 0 rfl) fun t pl e => by have := congrArg List.head? e; simp [putF] at this)
      have st := st.set 0 (o' := .ins CP dn [("tokens", .ref la), ("cursor", .int 0), ("line_count", .int ((spN l).length : Nat))]) rfl trivial
      obtain ⟨g1, g2⟩ := lexAll_G el
      refine k la as _ (fun a o ha h => st.ex a o ha h) ⟨st.at 0 rfl, ?_, tks, Nat.zero_le _, by dsimp only; omega, g2⟩
      have hll : la ≠ ll := fun e => by
        have h1 : H1 la = some (.lst (as.map V.ref)) := hla
        have h2 : (upd (upd H1 n (.ins CP dn [("tokens", .ref la)])) n (.ins CP dn [("tokens", .ref la), ("cursor", .int 0)])) ll = none := nll
        rw [← e, upd_ne hnla.symm, upd_ne hnla.symm, h1] at h2
        cases h2
      show upd _ n _ la = _
      rw [upd_ne hnla.symm, upd_ne hll, upd_ne hnla.symm, upd_ne hnla.symm]
      exact hla
end
end Fb
namespace Fb
open PySem PySem.Spec PyProof.Rows L2 PySem.HandSPX SX
structure PsK (K : PySem.W.Frag) (mg : Str → Option Value) (CT CP CS : Addr) : Prop where
  A : All K mg
  KS : KxScriptSyntaxError K mg CS
  OT : ClsOk K mg "Token" CT tkF
  mT : MkIn K CT "Token.__init__" s_Token___init
  O : ClsOk K mg "Parser" CP psF
  mP : MkIn K CP "Parser.__init__" s_Parser___init
  m1 : MetIn K CP "fail" "Parser.fail" s_Parser_fail
  m2 : MetIn K CP "peek" "Parser.peek" s_Parser_peek
  m3 : MetIn K CP "sees_form" "Parser.sees_form" s_Parser_sees_form
  m4 : MetIn K CP "accept" "Parser.accept" s_Parser_accept
  m5 : MetIn K CP "expect" "Parser.expect" s_Parser_expect
  m6 : MetIn K CP "take" "Parser.take" s_Parser_take
  m7 : MetIn K CP "take_name" "Parser.take_name" s_Parser_take_name
  m8 : MetIn K CP "parse_script" "Parser.parse_script" s_Parser_parse_script
  m9 : MetIn K CP "parse_block" "Parser.parse_block" s_Parser_parse_block
  m10 : MetIn K CP "parse_statement" "Parser.parse_statement" s_Parser_parse_statement
  m11 : MetIn K CP "parse_link" "Parser.parse_link" s_Parser_parse_link
  m12 : MetIn K CP "parse_if" "Parser.parse_if" s_Parser_parse_if
  m13 : MetIn K CP "parse_sum" "Parser.parse_sum" s_Parser_parse_sum
  m14 : MetIn K CP "parse_product" "Parser.parse_product" s_Parser_parse_product
  m15 : MetIn K CP "parse_factor" "Parser.parse_factor" s_Parser_parse_factor
section
variable {P : Program} {w : World} {K : PySem.W.Frag} {mg : Str → Option Value} {base : Heap} {CT CP CS : Addr}
structure PsS (P : Program) (w : World) (K : PySem.W.Frag) (mg : Str → Option Value) (base : Heap) (CT CP CS : Addr) : Prop where
  fail : CalM P w K mg base 3 CP "fail" (spFailP CT CP CS)
  peek : CalM P w K mg base 1 CP "peek" (spPeek CT CP)
  sees : CalM P w K mg base 1 CP "sees_form" (spSees CT CP)
  acc : CalM P w K mg base 2 CP "accept" (spAcc CT CP)
  exp : CalM P w K mg base 4 CP "expect" (spPs1 CT CP CS xp ValU)
  take : CalM P w K mg base 4 CP "take" (spTake CT CP CS)
  name : CalM P w K mg base 5 CP "take_name" (spPs CT CP CS pName ValZ)
theorem PsK.small (k : PsK K mg CT CP CS) : PsS P w K mg base CT CP CS := by
  have f := ok_ps_fail (P := P) (w := w) (base := base) k.A k.KS k.OT k.O k.m1
  have p := ok_ps_peek (P := P) (w := w) (base := base) k.A k.OT k.O k.m2
  have s := ok_ps_sees (P := P) (w := w) (base := base) k.A k.OT k.O k.m3
  have a := ok_ps_accept k.A k.O k.m4 p
  have t := ok_ps_take k.A k.OT k.O k.m6 s f
  exact ⟨f, p, s, a, ok_ps_expect k.A k.O k.m5 a f, t, ok_ps_name k.A k.O k.m7 p t f⟩
theorem CalM.up {j k : Nat} {C : Addr} {m : Str} {sp : Sp} (c : CalM P w K mg base j C m sp) (h : j ≤ k) : CalM P w K mg base k C m sp := by
  obtain ⟨f, fd, ps, a, b, F, r⟩ := c.ex
  exact ⟨f, fd, ps, a, b, F.mono h, r⟩
theorem ok_ps_no {α : Type} {f : List Str → Rs α} {Val : α → V → Hp → Prop} {m q : Str} {st : Stmt} {N : List Str} (O : ClsOk K mg "Parser" CP psF) (D : MetIn K CP m q st) (S : FnScope N ["self"] (defScope st))
    (b : ∀ (kV doc pm : Value) (an : Option Addr) (cdv ct : Value) (us : List Value), us.length = ["self"].length → bindArgs (PySem.W.fnOf m q (defArgs st) (defBody st) (defScope st) .none kV doc pm an cdv ct) ⟨us, []⟩ = pure ((["self"] : List Str).zip us)) (hf : ∀ l, f l = .no) : CalM P w K mg base 1 CP m (spPs CT CP CS f Val) := by
  refine calM_ofX O D S b (fun vs H Q E h => ?_) (fun g cdv A' outer s H0 vs Q E hr h => ?_)
  · obtain ⟨S, c, rfl, _, k⟩ := h
    rw [hf] at k
    exact k.elim
  · obtain ⟨S, c, rfl, _, k⟩ := h
    rw [hf] at k
    exact k.elim
theorem ps_exprs (k : PsK K mg CT CP CS) : ∀ d, CalM P w K mg base (5 + 3 * d) CP "parse_factor" (spPs CT CP CS (pFac d) (ValX K)) ∧ CalM P w K mg base (7 + 3 * d) CP "parse_sum" (spPs CT CP CS (pSum d) (ValX K)) := by
  have s := PsK.small (P := P) (w := w) (base := base) k
  have key : ∀ d, CalM P w K mg base (5 + 3 * d) CP "parse_factor" (spPs CT CP CS (pFac d) (ValX K)) → CalM P w K mg base (7 + 3 * d) CP "parse_sum" (spPs CT CP CS (pSum d) (ValX K)) := fun d f => by
    have p := ok_ps_product k.A k.O k.m14 (by omega) s.peek f
    exact (ok_ps_sum k.A k.O k.m13 (by omega) s.peek s.take p).up (by omega)
  intro d
  induction d with
  | zero =>
    have f : CalM P w K mg base (5 + 3 * 0) CP "parse_factor" (spPs CT CP CS (pFac 0) (ValX K)) := (ok_ps_no k.O k.m15 sc_Parser_parse_factor (fun _ _ _ _ _ _ us hl => match us, hl with | [_], _ => rfl) (fun _ => rfl)).up (by omega)
    exact ⟨f, key 0 f⟩
  | succ d ih =>
    have f : CalM P w K mg base (5 + 3 * (d + 1)) CP "parse_factor" (spPs CT CP CS (pFac (d + 1)) (ValX K)) := (ok_ps_factor (lv := 7 + 3 * d) k.A k.O k.m15 (by omega) s.sees s.acc s.exp s.take s.name (ih.1.up (by omega)) ih.2).up (by omega)
    exact ⟨f, key (d + 1) f⟩
theorem ps_stms (k : PsK K mg CT CP CS) (D : Nat) : ∀ d, CalM P w K mg base (8 + 3 * D + 3 * d) CP "parse_statement" (spPs CT CP CS (pStm D d) (ValM K)) := by
  have s := PsK.small (P := P) (w := w) (base := base) k
  have x := (ps_exprs (P := P) (w := w) (base := base) k D).2
  intro d
  induction d with
  | zero => exact (ok_ps_no k.O k.m10 sc_Parser_parse_statement (fun _ _ _ _ _ _ us hl => match us, hl with | [_], _ => rfl) (fun _ => rfl)).up (by omega)
  | succ d ih =>
    have b := ok_ps_block k.A k.O k.m9 (pStm_shr D d) (by omega) s.acc s.exp ih
    have f := ok_ps_if (lv := 9 + 3 * D + 3 * d) k.A k.O k.m12 (by omega) s.peek s.acc s.fail s.take (x.up (by omega)) (b.up (by omega))
    have l := ok_ps_link (lv := 7 + 3 * D) k.A k.O k.m11 (by omega) s.acc s.exp s.take x
    exact (ok_ps_statement (lv := 10 + 3 * D + 3 * d) k.A k.O k.m10 (by omega) s.acc s.exp s.name (x.up (by omega)) (b.up (by omega)) (l.up (by omega)) (f.up (by omega))).up (by omega)
theorem ok_ps_script (A : All K mg) (O : ClsOk K mg "Parser" CP psF) (m : MetIn K CP "parse_script" "Parser.parse_script" s_Parser_parse_script) {F : List Str → Rs Sm} (hF : Shr F) {lv : Nat} (hlv : 5 ≤ lv)
    (c_Parser_parse_statement : CalM P w K mg base lv CP "parse_statement" (spPs CT CP CS F (ValM K))) :
    CalM P w K mg base (lv + 1) CP "parse_script" (spPs CT CP CS (fun ts => scrLp F (ts.length + 1) [] ts) (ValB K)) := by
  refine calM_ofX O m sc_Parser_parse_script (fun _ _ _ _ _ _ us hl => match us, hl with | [_], _ => rfl) (fun vs H Q E h => ?_) (fun f cdv A' outer s H0 vs Q E hr h => ?_)
  · obtain ⟨S, c, rfl, _⟩ := h
    rfl
  · obtain ⟨S, c0, rfl, i, k⟩ := h
    refine ⟨_, (pss_cons (ps_set (i := 1) sc_Parser_parse_script.nd rfl (Or.inl rfl) (pe_lst pa_nil))
 (pss_cons (ps_while (passes_of rfl) (pt_cmpR op_lt (k_fld (K := K) rfl (pv 0) rfl) (pe_callB (id := "len") (k_len (K := K) rfl) (by rfl) A.b_len (by decide +kernel) (pa_cons (k_fld (K := K) rfl (pv 0) rfl) pa_nil)) (nomark _))
 (pss_one (ps_expr (pe_bm PySem.F.plainAttrs_list PySem.F.slot_list_append PySem.F.type_list_append mt_append (pv 1) (pa_cons (pm0X c_Parser_parse_statement hr (by omega) (takes_of rfl rfl rfl rfl) (pv 0)) pa_nil)))))
 (pss_one (ps_ret (pe_callTy (T := "tuple") (k_tuple (K := K) rfl) (by rfl) A.b_tuple (by decide +kernel) (pa_cons (pv 1) pa_nil)))))), ?_⟩
    have hn := i.t.n
    have i1 := i
    have st : Stt [S.p] H0 [(S.p, psO CP S c0)] [] H0 := i.start
    (try (dsimp only [L2.cxOf, L2.Cx.nox, L2.Cx.wish, L2.Cx.blk]))
    walk_at "go"
    refine st_newLB st (by simp) fun bl nbl st => ?_
    have e2 : Same H0 (upd H0 bl (.lst [])) := Same.new nbl
    have i2 := i.keep e2
    walk_at "go"
    refine ⟨fun n σ H => ∃ c vs b, σ = [some (.ref S.p), some (.ref bl)] ∧ ExB [S.p] H0 H ∧ Stt [S.p] H0 [(S.p, psO CP S c), (bl, .lst vs)] [fun H => DtAll K H vs (smsD b)] H ∧ PsI CT CP H S c ∧ b.length + (lft S c).length ≤ S.toks.length ∧ PsR CT CP CS H0 S (ValB K) (scrLp F n b (lft S c)) Q E,
      ⟨_, c0, [], [], rfl, ExB.same e2, (show Stt [S.p] H0 [(S.p, psO CP S c0), (bl, .lst [])] [] _ from st).know (by rw [smsD]; exact .nil) Pers.all, i2, by rw [lft_len i2.c]; simp, k⟩, ?_⟩
    clear k i2 e2 st i
    rintro n σ H ⟨c, vs, b, rfl, e0, st, i, hbl, k⟩
    cases n with
    | zero => exact k.elim
    | succ n =>
      walk_at "go"
      refine i_fldV O (by simp [psF]) i.h rfl ?_
      walk_at "go"
      refine i_fldV O (by simp [psF]) i.h rfl ?_
      walk_at "go"
      refine i_lenL (xs := S.as.map V.ref) (SqL.of i.l) ?_
      walk_at "go"
      rw [List.length_map, hn]
      have hda : DtAll K H vs (smsD b) := st.pers 0 rfl
      have hvl : vs.length = b.length := by rw [hda.len, smsD_map, List.length_map]
      have hz := i.z
      rcases lft_cases i.c with ⟨hc, el⟩ | ⟨t, et, hc, el⟩
      · refine ifF (decide_eq_false (by omega)) ?_
        rw [el] at k
        walk_at "go"
        refine ⟨bl, vs, rfl, .inl ⟨st.sqL 1 rfl, fun q nq => ?_⟩⟩
        have e3 : Same H (upd H q (.tup vs)) := Same.new nq
        exact k _ _ c (e0.trans (ExB.same e3)) (i.keep e3) el (dt_tup hda nq)
      · refine ifT (decide_eq_true (by omega)) ?_
        have hk : scrLp F (n + 1) b (lft S c) = (F (lft S c)).bind fun s r => scrLp F n (b ++ [s]) r := by rw [el, scrLp_cons]
        rw [hk] at k
        refine ⟨fun σ H => ∃ n' < n + 1, ∃ c vs b, σ = [some (.ref S.p), some (.ref bl)] ∧ ExB [S.p] H0 H ∧ Stt [S.p] H0 [(S.p, psO CP S c), (bl, .lst vs)] [fun H => DtAll K H vs (smsD b)] H ∧ PsI CT CP H S c ∧ b.length + (lft S c).length ≤ S.toks.length ∧ PsR CT CP CS H0 S (ValB K) (scrLp F n' b (lft S c)) Q E, fun σ' H' h => h, ?_⟩
        walk_at "go"
        refine i_tyL (st.sqL 1 rfl) ?_
        walk_at "go"
        refine i_methX ?_
        walk_at "go"
        refine ⟨S.p, _, _, rfl, i.h, rfl, ?_⟩
        walk_at "go"
        refine ⟨S, c, rfl, i, (PsR.ex e0 k).bind (ExB.refl _) fun s r v H3 c3 hx e3 i3 hl dv k3 => ?_⟩
        subst hl
        have hsh := hF _ _ _ hx
        have st3 : Stt [S.p] H0 [(S.p, psO CP S c3), (bl, .lst vs)] [fun H => DtAll K H vs (smsD b)] H3 := Stt.upds (L1 := [(S.p, psO CP S c)]) (L1' := [(S.p, psO CP S c3)]) st rfl e3 (fun p hp => by rw [List.mem_singleton.mp hp]; exact i3.h) (fun p hp => by rw [List.mem_singleton.mp hp]; trivial)
        walk_at "go"
        refine ⟨bl, vs, v, rfl, rfl, st3.at 1 rfl, szBlt (by omega), ?_⟩
        have hda3 : DtAll K H3 vs (smsD b) := st3.pers 0 rfl
        have st4 := (st3.know (dtAll_snocM hda3 dv) Pers.all).set 1 (o' := .lst (vs ++ [v])) rfl trivial
        have st5 : Stt [S.p] H0 [(S.p, psO CP S c3), (bl, .lst (vs ++ [v]))] [fun H => DtAll K H (vs ++ [v]) (smsD (b ++ [s]))] (upd H3 bl (.lst (vs ++ [v]))) := st4.only [1] rfl
        have hblno : H3 bl = some (.lst vs) := st3.at 1 rfl
        have i5 : PsI CT CP (upd H3 bl (.lst (vs ++ [v]))) S c3 := by
          have hla : S.la ≠ bl := fun e => by
            have := i1.l
            rw [e, nbl] at this
            cases this
          exact ⟨st5.at 0 rfl, by rw [upd_ne hla]; exact i3.l, i3.t.ex exB_upd (lst_no hblno), i3.c, i3.z, i3.ok⟩
        refine ⟨n, Nat.lt_succ_self _, c3, vs ++ [v], b ++ [s], rfl, ?_, st5, i5, by rw [List.length_append, List.length_singleton]; omega, ?_⟩
        · intro a o ha h
          have hne : a ≠ bl := fun e => by rw [e, nbl] at h; cases h
          rw [upd_ne hne]
          exact e3 a o ha (e0 a o ha h)
        · rw [hx, Rs.bind_ok] at k
          exact k
theorem ok_parse_script (k : PsK K mg CT CP CS) (D d : Nat) : Cal P w K mg base (10 + 3 * D + 3 * d) "parse_script" (spParse K CS D d) := by
  have A := k.A
  have c_Token := ok_tok_init (P := P) (w := w) (base := base) k.A k.OT k.mT
  have c_tokz := ok_tokenize (P := P) (w := w) (base := base) k.A (ok_token_at k.A k.KS c_Token (ok_end_of_run k.A)) k.OT
  have c_Parser := ok_ps_init k.A k.O k.mP c_tokz
  have c_Parser_parse_script := ok_ps_script k.A k.O k.m8 (pStm_shr D d) (by omega) (ps_stms (P := P) (w := w) (base := base) k D d)
  refine Cal.mono (j := 9 + 3 * D + 3 * d + 1) ?_ (by omega)
  refine cal_ofX A.d_parse_script sc_parse_script (fun _ _ _ _ _ _ us hl => match us, hl with | [_], _ => rfl) (fun vs H Q E h => ?_) (fun f cdv A' outer s H0 vs Q E hr h => ?_)
  · obtain ⟨l, rfl, _⟩ := h
    rfl
  · obtain ⟨l, rfl, hl, k⟩ := h
    refine ⟨_, (pss_one (ps_ret (pm0X c_Parser_parse_script hr (by omega) (takes_of rfl rfl rfl rfl) (pkX c_Parser hr (by omega) (takes_of rfl rfl rfl rfl) (pa_cons (pv 0) pa_nil))))), ?_⟩
    walk_at "begin"
    refine i_methX ?_
    refine i_makeX ?_
    walk_at "go"
    intro x dx nx ndx hne
    have same : ∀ {H1 : Hp}, ExB [x] (upd (upd H0 dx (.own x)) x (.ins CP dx [])) H1 → Same H0 H1 := fun e a o h => e a o (by simpa using ne_of_none h nx) (by rw [upd_ne (ne_of_none h nx), upd_ne (ne_of_none h ndx)]; exact h)
    refine ⟨x, dx, l, rfl, upd_same, hl, ?_⟩
    unfold parseT at k
    cases el : lexAll l with
    | error e =>
      rw [el] at k
      exact fun d H1 e1 nd => k d H1 (same e1) nd
    | ok toks =>
      rw [el] at k
      dsimp only at k
      intro la as H1 e1 i1
      refine ⟨rfl, ?_⟩
      refine ⟨x, _, _, rfl, i1.h, rfl, ?_⟩
      walk_at "go"
      refine ⟨⟨x, dx, la, as, toks, (spN l).length⟩, 0, rfl, i1, ?_⟩
      have hlf : lft ⟨x, dx, la, as, toks, (spN l).length⟩ 0 = toks.map (·.tx) := rfl
      rw [hlf]
      show PsR CT CP CS H1 _ (ValB K) (pScr D d (toks.map (·.tx))) Q E
      cases ep : pScr D d (toks.map (·.tx)) with
      | no => rw [ep] at k; exact k
      | ok b r =>
        rw [ep] at k
        exact fun v H2 c' e2 _ _ dv => k v H2 (same (e1.trans e2)) dv
      | err r =>
        rw [ep] at k
        exact fun dd H2 e2 nd => k dd H2 (same (e1.trans e2)) nd
end
end Fb
namespace Fb
open PySem PySem.Spec PyProof.Rows L2 PySem.HandSPX SX
def spLvl (K : PySem.W.Frag) : Sp := fun vs H Q _ => ∃ (v : V) (e : Ex), vs = [v] ∧ Dt K H v (exD e) ∧ Q (.int (e.lv : Nat)) H
def spPrE (K : PySem.W.Frag) (d : Nat) : Sp := fun vs H Q _ => ∃ (v : V) (e : Ex), vs = [v] ∧ Dt K H v (exD e) ∧ exL e ∧ e.dp < d ∧ (pE e).length ≤ 2000000 ∧ Q (.str (S (pE e))) H
def spPrO (K : PySem.W.Frag) (d : Nat) : Sp := fun vs H Q _ => ∃ (v : V) (e : Ex) (l : Nat), vs = [v, .int (l : Nat)] ∧ Dt K H v (exD e) ∧ exL e ∧ e.dp < d ∧ (pE e).length ≤ 2000000 ∧ Q (.str (S (pO e l))) H
theorem dt_str {K : PySem.W.Frag} {H : Hp} {v : V} {z : Str} (h : Dt K H v (.str z)) : v = .str z := by cases h; rfl
theorem dt_int {K : PySem.W.Frag} {H : Hp} {v : V} {n : Int} (h : Dt K H v (.int n)) : v = .int n := by cases h; rfl
theorem dtA1 {K : PySem.W.Frag} {H : Hp} {xs : List V} {d : PyData} {ds : List PyData} (h : DtAll K H xs (d :: ds)) : ∃ x ys, xs = x :: ys ∧ Dt K H x d ∧ DtAll K H ys ds := by
  cases h with
  | cons a b => exact ⟨_, _, rfl, a, b⟩
theorem dtA0 {K : PySem.W.Frag} {H : Hp} {xs : List V} (h : DtAll K H xs []) : xs = [] := by cases h; rfl
theorem ex_inv1 {K : PySem.W.Frag} {H : Hp} {v : V} {n : Str} (h : Dt K H v (.tuple [.str n])) : ∃ a, v = .ref a ∧ TupAt K H a [.str n] := by
  obtain ⟨a, xs, rfl, t, d⟩ := h.tup_inv
  obtain ⟨x, ys, rfl, d1, d2⟩ := dtA1 d
  obtain rfl := dtA0 d2
  obtain rfl := dt_str d1
  exact ⟨a, rfl, t⟩
theorem ex_inv2 {K : PySem.W.Frag} {H : Hp} {v : V} {n : Str} {d : PyData} (h : Dt K H v (.tuple [.str n, d])) : ∃ a x, v = .ref a ∧ TupAt K H a [.str n, x] ∧ Dt K H x d := by
  obtain ⟨a, xs, rfl, t, d⟩ := h.tup_inv
  obtain ⟨x, ys, rfl, d1, d2⟩ := dtA1 d
  obtain ⟨y, ys, rfl, d3, d4⟩ := dtA1 d2
  obtain rfl := dtA0 d4
  obtain rfl := dt_str d1
  exact ⟨a, y, rfl, t, d3⟩
theorem ex_inv3 {K : PySem.W.Frag} {H : Hp} {v : V} {n : Str} {d e : PyData} (h : Dt K H v (.tuple [.str n, d, e])) : ∃ a x y, v = .ref a ∧ TupAt K H a [.str n, x, y] ∧ Dt K H x d ∧ Dt K H y e := by
  obtain ⟨a, xs, rfl, t, d⟩ := h.tup_inv
  obtain ⟨x, ys, rfl, d1, d2⟩ := dtA1 d
  obtain ⟨y, ys, rfl, d3, d4⟩ := dtA1 d2
  obtain ⟨z, ys, rfl, d5, d6⟩ := dtA1 d4
  obtain rfl := dtA0 d6
  obtain rfl := dt_str d1
  exact ⟨a, y, z, rfl, t, d3, d5⟩
theorem ex_inv4 {K : PySem.W.Frag} {H : Hp} {v : V} {n : Str} {d e f : PyData} (h : Dt K H v (.tuple [.str n, d, e, f])) : ∃ a x y z, v = .ref a ∧ TupAt K H a [.str n, x, y, z] ∧ Dt K H x d ∧ Dt K H y e ∧ Dt K H z f := by
  obtain ⟨a, xs, rfl, t, d⟩ := h.tup_inv
  obtain ⟨x, ys, rfl, d1, d2⟩ := dtA1 d
  obtain ⟨y, ys, rfl, d3, d4⟩ := dtA1 d2
  obtain ⟨z, ys, rfl, d5, d6⟩ := dtA1 d4
  obtain ⟨u, ys, rfl, d7, d8⟩ := dtA1 d6
  obtain rfl := dtA0 d8
  obtain rfl := dt_str d1
  exact ⟨a, y, z, u, rfl, t, d3, d5, d7⟩
theorem ex_inv6 {K : PySem.W.Frag} {H : Hp} {v : V} {n : Str} {d1 d2 d3 d4 d5 : PyData} (h : Dt K H v (.tuple [.str n, d1, d2, d3, d4, d5])) : ∃ a x1 x2 x3 x4 x5, v = .ref a ∧ TupAt K H a [.str n, x1, x2, x3, x4, x5] ∧ Dt K H x1 d1 ∧ Dt K H x2 d2 ∧ Dt K H x3 d3 ∧ Dt K H x4 d4 ∧ Dt K H x5 d5 := by
  obtain ⟨a, xs, rfl, t, d⟩ := h.tup_inv
  obtain ⟨x, ys, rfl, e1, d⟩ := dtA1 d
  obtain ⟨y1, ys, rfl, f1, d⟩ := dtA1 d
  obtain ⟨y2, ys, rfl, f2, d⟩ := dtA1 d
  obtain ⟨y3, ys, rfl, f3, d⟩ := dtA1 d
  obtain ⟨y4, ys, rfl, f4, d⟩ := dtA1 d
  obtain ⟨y5, ys, rfl, f5, d⟩ := dtA1 d
  obtain rfl := dtA0 d
  obtain rfl := dt_str e1
  exact ⟨a, y1, y2, y3, y4, y5, rfl, t, f1, f2, f3, f4, f5⟩
def exF : Ex → Str
  | .num _ => "number"
  | .name _ => "name"
  | .neg _ => "negative"
  | .bin _ _ _ => "binary"
  | .queue _ => "queue"
  | .fin _ => "finished"
  | .next => "next"
theorem ex_form {K : PySem.W.Frag} {H : Hp} {v : V} {e : Ex} (h : Dt K H v (exD e)) : ∃ a xs f, v = .ref a ∧ TupAt K H a (.str f :: xs) ∧ f = exF e := by
  cases e with
  | num n => obtain ⟨a, x, rfl, t, _⟩ := ex_inv2 h; exact ⟨a, _, _, rfl, t, rfl⟩
  | name s => obtain ⟨a, x, rfl, t, _⟩ := ex_inv2 h; exact ⟨a, _, _, rfl, t, rfl⟩
  | neg e => obtain ⟨a, x, rfl, t, _⟩ := ex_inv2 h; exact ⟨a, _, _, rfl, t, rfl⟩
  | bin o l r => obtain ⟨a, x, y, z, rfl, t, _⟩ := ex_inv4 h; exact ⟨a, _, _, rfl, t, rfl⟩
  | queue e => obtain ⟨a, x, rfl, t, _⟩ := ex_inv2 h; exact ⟨a, _, _, rfl, t, rfl⟩
  | fin p => obtain ⟨a, x, rfl, t, _⟩ := ex_inv2 h; exact ⟨a, _, _, rfl, t, rfl⟩
  | next => obtain ⟨a, rfl, t⟩ := ex_inv1 h; exact ⟨a, _, _, rfl, t, rfl⟩
theorem atI_zero {α : Type} {x : α} {xs : List α} : atI (x :: xs) 0 = some x := by
  unfold atI ixN
  rw [if_pos (by decide), if_pos (by simp only [List.length_cons]; omega)]
  rfl
theorem op_inPro (o : Op) : decide (o.s ∈ (["*", "div", "mod"] : List Str)) = decide (o.lv = 2) := by cases o <;> decide +kernel
theorem num_S' (n : Nat) : Str.ofString (toString ((n : Nat) : Int)) = S (TL.numL n) := num_S n
theorem num_log {n : Nat} (h : n < 10 ^ 18) : ((n : Nat) : Int).natAbs.log2 < 1920 := by
  rw [Int.natAbs_natCast]
  by_cases h0 : n = 0
  · subst h0; decide
  · exact Nat.lt_of_lt_of_le ((Nat.log2_lt h0).mpr (Nat.lt_of_lt_of_le h (show 10 ^ 18 ≤ 2 ^ 60 by decide))) (by decide)
section
variable {P : Program} {w : World} {K : PySem.W.Frag} {mg : Str → Option Value} {base : Heap}
theorem ok_level_of (A : All K mg) : Cal P w K mg base 1 "level_of" (spLvl K) := by
  refine cal_of A.d_level_of sc_level_of (fun _ _ _ _ _ _ us hl => match us, hl with | [_], _ => rfl) (fun vs H Q E h => ?_) (fun f cdv A' outer s H vs Q E hr h => ?_)
  · obtain ⟨v, e, rfl, _⟩ := h
    rfl
  · obtain ⟨v, e, rfl, hd, k⟩ := h
    obtain ⟨_, h_FACTOR_LEVEL⟩ := A.c_FACTOR_LEVEL
    obtain ⟨_, h_PRODUCT_LEVEL⟩ := A.c_PRODUCT_LEVEL
    obtain ⟨_, h_SUM_LEVEL⟩ := A.c_SUM_LEVEL
    obtain ⟨a_PRODUCT_OPERATORS, h_PRODUCT_OPERATORS, q_P⟩ := A.c_PRODUCT_OPERATORS
    have hP : ∀ H, SqT K H a_PRODUCT_OPERATORS ((["*", "div", "mod"] : List Str).map V.str) := q_P
    refine ⟨_, (pss_cons (ps_if (pt_cmpR op_ne (pe_ix (k_ixT (K := K) rfl) (pv 0) pe_int (fun _ _ => rfl)) pe_str (nomark _)) (pss_one (ps_ret (pe_glob (v := .int 3) rfl h_FACTOR_LEVEL ⟨_, rfl⟩))) pss_nil)
 (pss_one (ps_ret (pe_ifExp (pt_cmpR (k_in (K := K) rfl) (pe_ix (k_ixT (K := K) rfl) (pv 0) pe_int (fun _ _ => rfl)) (pe_glob (v := .ref a_PRODUCT_OPERATORS) rfl h_PRODUCT_OPERATORS rfl) (by rfl)) (pe_glob (v := .int 2) rfl h_PRODUCT_LEVEL ⟨_, rfl⟩) (pe_glob (v := .int 1) rfl h_SUM_LEVEL ⟨_, rfl⟩))))), ?_⟩
    obtain ⟨a, xs, fm, rfl, t, hf⟩ := ex_form hd
    walk_at "begin"
    refine i_ixT t.sq atI_zero ?_
    walk_at "go"
    by_cases hb : ∃ o l r, e = .bin o l r
    · obtain ⟨o, l, r, rfl⟩ := hb
      subst hf
      refine ifF (show (!decide (("binary" : Str) = "binary")) = false by decide +kernel) ?_
      refine i_next ?_
      obtain ⟨a', x, y, z, ea, t', d1, d2, d3⟩ := ex_inv4 hd
      cases ea
      obtain rfl := dt_str d1
      walk_at "go"
      refine i_ixT t'.sq (v := .str o.s) rfl ?_
      walk_at "go"
      refine i_inTs (hP _) ?_
      refine i_bl ?_
      rw [if_neg (show ¬ (false = true) by decide), op_inPro]
      have ho : o.lv = 1 ∨ o.lv = 2 := by cases o <;> simp [Op.lv]
      rcases ho with ho | ho
      · refine ifF (by rw [ho]; rfl) ?_
        walk_at "go"
        rw [show ((Ex.bin o l r).lv : Nat) = 1 from ho] at k
        exact k
      · refine ifT (by rw [ho]; rfl) ?_
        walk_at "go"
        rw [show ((Ex.bin o l r).lv : Nat) = 2 from ho] at k
        exact k
    · have h3 : e.lv = 3 := by
        cases e with
        | bin o l r => exact absurd ⟨o, l, r, rfl⟩ hb
        | _ => rfl
      have hne : (!decide (fm = "binary")) = true := by
        cases e with
        | bin o l r => exact absurd ⟨o, l, r, rfl⟩ hb
        | num n => subst hf; exact (show (!decide (("number" : Str) = "binary")) = true by decide +kernel)
        | name s => subst hf; exact (show (!decide (("name" : Str) = "binary")) = true by decide +kernel)
        | neg e => subst hf; exact (show (!decide (("negative" : Str) = "binary")) = true by decide +kernel)
        | queue e => subst hf; exact (show (!decide (("queue" : Str) = "binary")) = true by decide +kernel)
        | fin p => subst hf; exact (show (!decide (("finished" : Str) = "binary")) = true by decide +kernel)
        | next => subst hf; exact (show (!decide (("next" : Str) = "binary")) = true by decide +kernel)
      refine ifT hne ?_
      walk_at "go"
      rw [h3] at k
      exact k
theorem ok_print_operand (A : All K mg) {d : Nat} (c_level_of : Cal P w K mg base 1 "level_of" (spLvl K)) (c_print_expression : Cal P w K mg base (2 * d + 1) "print_expression" (spPrE K d)) : Cal P w K mg base (2 * d + 2) "print_operand" (spPrO K d) := by
  refine cal_of A.d_print_operand sc_print_operand (fun _ _ _ _ _ _ us hl => match us, hl with | [_, _], _ => rfl) (fun vs H Q E h => ?_) (fun f cdv A' outer s H vs Q E hr h => ?_)
  · obtain ⟨v, e, l, rfl, _⟩ := h
    rfl
  · obtain ⟨v, e, l, rfl, hd, hL, hdp, hlen, k⟩ := h
    refine ⟨_, (pss_cons (ps_set (i := 2) sc_print_operand.nd rfl (Or.inl rfl) (pc c_print_expression hr (by omega) (pa_cons (pv 0) pa_nil)))
 (pss_one (ps_ret (pe_ifExp (pt_cmpR op_ge (pc c_level_of hr (by omega) (pa_cons (pv 0) pa_nil)) (pv 1) (nomark _)) (pv 2) (pe_op op_add_str (pe_op op_add_str pe_str (pv 2)) pe_str))))), ?_⟩
    walk_at "begin"
    refine ⟨v, e, rfl, hd, hL, hdp, hlen, ?_⟩
    walk_at "go"
    refine ⟨v, e, rfl, hd, ?_⟩
    walk_at "go"
    unfold pO parL at k
    by_cases h : e.lv < l
    · rw [decide_eq_true h] at k
      refine ifF (decide_eq_false (by omega)) ?_
      walk_at "go"
      rw [show ("(" : Str) = S [40] by decide +kernel, show (")" : Str) = S [41] by decide +kernel]
      refine i_addB (by simp; omega) ?_
      walk_at "go"
      rw [S_app]
      refine i_addB (by simp; omega) ?_
      rw [S_app]
      exact k
    · rw [decide_eq_false h] at k
      refine ifT (decide_eq_true (by omega)) ?_
      walk_at "go"
      exact k
end
end Fb
namespace Fb
open PySem PySem.Spec PyProof.Rows L2 PySem.HandSPX SX
def spPrT (K : PySem.W.Frag) (d : Nat) : Sp := fun vs H Q _ => ∃ (v : V) (t : Tg), vs = [v] ∧ Dt K H v (tgD t) ∧ tgL t ∧ (match t with | .port _ => True | .station e => e.dp < d ∧ (pE e).length ≤ 2000000) ∧ Q (.str (S (pT t))) H
theorem z_lp : ("(" : Str) = S [40] := by decide +kernel
theorem z_rp : (")" : Str) = S [41] := by decide +kernel
theorem z_spc : (" " : Str) = S [32] := by decide +kernel
theorem z_min : ("-" : Str) = S [45] := by decide +kernel
theorem parL_le (b : Bool) (t : List Nat) : t.length ≤ (parL b t).length := by cases b <;> simp [parL] <;> omega
section
variable {P : Program} {w : World} {K : PySem.W.Frag} {mg : Str → Option Value} {base : Heap}
set_option maxHeartbeats 0 in
theorem ok_print_expression1 (A : All K mg) {d lv : Nat} (hlv : 1 ≤ lv) (c_level_of : Cal P w K mg base 1 "level_of" (spLvl K)) (c_print_operand : Cal P w K mg base lv "print_operand" (spPrO K d)) (c_print_expression : Cal P w K mg base lv "print_expression" (spPrE K d)) : Cal P w K mg base (lv + 1) "print_expression" (spPrE K (d + 1)) := by
    obtain ⟨_, h_FACTOR_LEVEL⟩ := A.c_FACTOR_LEVEL
    refine cal_of A.d_print_expression sc_print_expression (fun _ _ _ _ _ _ us hl => match us, hl with | [_], _ => rfl) (fun vs H Q E h => ?_) (fun f cdv A' outer s H vs Q E hr h => ?_)
    · obtain ⟨v, e, rfl, _⟩ := h
      rfl
    · obtain ⟨v, e, rfl, hd, hL, hdp, hlen, k⟩ := h
      refine ⟨_, (pss_cons (ps_set (i := 1) sc_print_expression.nd rfl (Or.inl rfl) (pe_ix (k_ixT (K := K) rfl) (pv 0) pe_int (fun _ _ => rfl)))
 (pss_cons (ps_if (pt_cmpR op_eq (pv 1) pe_str (nomark _)) (pss_one (ps_ret (pe_callTy (T := "str") call_str_int (by rfl) A.b_str (by decide +kernel) (pa_cons (pe_ix (k_ixT (K := K) rfl) (pv 0) pe_int (fun _ _ => rfl)) pa_nil)))) pss_nil)
 (pss_cons (ps_if (pt_cmpR op_eq (pv 1) pe_str (nomark _)) (pss_one (ps_ret (pe_ix (k_ixT (K := K) rfl) (pv 0) pe_int (fun _ _ => rfl)))) pss_nil)
 (pss_cons (ps_if (pt_cmpR op_eq (pv 1) pe_str (nomark _)) (pss_one (ps_ret (pe_op op_add_str pe_str (pc c_print_operand hr (by omega) (pa_cons (pe_ix (k_ixT (K := K) rfl) (pv 0) pe_int (fun _ _ => rfl)) (pa_cons (pe_glob (v := .int 3) rfl h_FACTOR_LEVEL ⟨_, rfl⟩) pa_nil)))))) pss_nil)
 (pss_cons (ps_if (pt_cmpR op_eq (pv 1) pe_str (nomark _)) (pss_cons (ps_set (i := 2) sc_print_expression.nd rfl (Or.inl rfl) (pc c_level_of hr (by omega) (pa_cons (pv 0) pa_nil)))
 (pss_one (ps_ret (pe_op op_add_str (pe_op op_add_str (pe_op op_add_str (pe_op op_add_str (pc c_print_operand hr (by omega) (pa_cons (pe_ix (k_ixT (K := K) rfl) (pv 0) pe_int (fun _ _ => rfl)) (pa_cons (pv 2) pa_nil))) pe_str) (pe_ix (k_ixT (K := K) rfl) (pv 0) pe_int (fun _ _ => rfl))) pe_str) (pc c_print_operand hr (by omega) (pa_cons (pe_ix (k_ixT (K := K) rfl) (pv 0) pe_int (fun _ _ => rfl)) (pa_cons (pe_op op_add (pv 2) pe_int) pa_nil))))))) pss_nil)
 (pss_cons (ps_if (pt_cmpR op_eq (pv 1) pe_str (nomark _)) (pss_one (ps_ret pe_str)) pss_nil)
 (pss_one (ps_ret (pe_op op_add_str (pe_op op_add_str (pe_op op_add_str (pv 1) pe_str) (pe_ifExp (pt_cmpR op_eq (pv 1) pe_str (nomark _)) (pe_ix (k_ixT (K := K) rfl) (pv 0) pe_int (fun _ _ => rfl)) (pc c_print_expression hr (by omega) (pa_cons (pe_ix (k_ixT (K := K) rfl) (pv 0) pe_int (fun _ _ => rfl)) pa_nil)))) pe_str))))))))), ?_⟩
      have sub : ∀ e' : Ex, (∃ o r, e = .bin o e' r) ∨ (∃ o l, e = .bin o l e') ∨ e = .neg e' ∨ e = .queue e' → e'.dp < d := fun e' h => by
        rcases h with ⟨o, r, rfl⟩ | ⟨o, l, rfl⟩ | rfl | rfl
        · have : (Ex.bin o e' r).dp = max e'.dp r.dp + 1 := rfl
          omega
        · have : (Ex.bin o l e').dp = max l.dp e'.dp + 1 := rfl
          omega
        · have : (Ex.neg e').dp = e'.dp + 1 := rfl
          omega
        · have : (Ex.queue e').dp = e'.dp + 1 := rfl
          omega
      cases e with
      | num n =>
        obtain ⟨a, x, rfl, t, d1⟩ := ex_inv2 hd
        obtain rfl := dt_int d1
        walk_at "begin"
        refine i_ixT t.sq (v := .str "number") rfl ?_
        walk_at "go"
        refine ifT (show decide (("number" : Str) = "number") = true by decide +kernel) ?_
        walk_at "go"
        refine i_ixT t.sq (v := .int (n : Nat)) rfl ?_
        refine ⟨_, rfl, num_log hL, ?_⟩
        rw [num_S']
        exact k
      | name z =>
        obtain ⟨a, x, rfl, t, d1⟩ := ex_inv2 hd
        obtain rfl := dt_str d1
        walk_at "begin"
        refine i_ixT t.sq (v := .str "name") rfl ?_
        walk_at "go"
        refine ifF (show decide (("name" : Str) = "number") = false by decide +kernel) ?_
        walk_at "go"
        refine ifT (show decide (("name" : Str) = "name") = true by decide +kernel) ?_
        walk_at "go"
        refine i_ixT t.sq (v := .str z) rfl ?_
        rw [show pE (.name z) = cs z from rfl, S_cs] at k
        exact k
      | neg e =>
        obtain ⟨a, x, rfl, t, d1⟩ := ex_inv2 hd
        have hlen' : (parL (decide (e.lv < 3)) (pE e)).length + 1 ≤ 2000000 := hlen
        have hpl := parL_le (decide (e.lv < 3)) (pE e)
        walk_at "begin"
        refine i_ixT t.sq (v := .str "negative") rfl ?_
        walk_at "go"
        refine ifF (show decide (("negative" : Str) = "number") = false by decide +kernel) ?_
        walk_at "go"
        refine ifF (show decide (("negative" : Str) = "name") = false by decide +kernel) ?_
        walk_at "go"
        refine ifT (show decide (("negative" : Str) = "negative") = true by decide +kernel) ?_
        walk_at "go"
        refine i_ixT t.sq (v := x) rfl ?_
        walk_at "go"
        refine ⟨x, e, 3, rfl, d1, hL, sub e (by simp), by omega, ?_⟩
        rw [z_min]
        refine i_addB (by show ([45] : List Nat).length + (parL (decide (e.lv < 3)) (pE e)).length ≤ _; simp only [List.length_cons, List.length_nil, List.length_append]; omega) ?_
        rw [S_app]
        exact k
      | bin o l r =>
        obtain ⟨a, x, y, z, rfl, t, d1, d2, d3⟩ := ex_inv4 hd
        obtain rfl := dt_str d1
        have hlen' := hlen
        rw [pE] at hlen'
        simp only [List.length_append, List.length_cons] at hlen'
        have h1 := parL_le (decide (l.lv < o.lv)) (pE l)
        have h2 := parL_le (decide (r.lv < o.lv + 1)) (pE r)
        walk_at "begin"
        refine i_ixT t.sq (v := .str "binary") rfl ?_
        walk_at "go"
        refine ifF (show decide (("binary" : Str) = "number") = false by decide +kernel) ?_
        walk_at "go"
        refine ifF (show decide (("binary" : Str) = "name") = false by decide +kernel) ?_
        walk_at "go"
        refine ifF (show decide (("binary" : Str) = "negative") = false by decide +kernel) ?_
        walk_at "go"
        refine ifT (show decide (("binary" : Str) = "binary") = true by decide +kernel) ?_
        walk_at "go"
        refine ⟨_, .bin o l r, rfl, hd, ?_⟩
        walk_at "go"
        refine i_ixT t.sq (v := y) rfl ?_
        walk_at "go"
        refine ⟨y, l, o.lv, rfl, d2, hL.1, sub l (by simp), by omega, ?_⟩
        rw [z_spc]
        have eL : (pO l o.lv).length = (parL (decide (l.lv < o.lv)) (pE l)).length := rfl
        have eR : (pO r (o.lv + 1)).length = (parL (decide (r.lv < o.lv + 1)) (pE r)).length := rfl
        walk_at "go"
        refine i_addB (by rw [eL]; simp only [List.length_cons, List.length_nil, List.length_append]; omega) ?_
        rw [S_app]
        walk_at "go"
        refine i_ixT t.sq (v := .str o.s) rfl ?_
        rw [← S_cs o.s]
        refine i_addB (by rw [List.length_append, eL]; simp only [List.length_cons, List.length_nil, List.length_append]; omega) ?_
        rw [S_app]
        walk_at "go"
        refine i_addB (by rw [List.length_append, List.length_append, eL]; simp only [List.length_cons, List.length_nil, List.length_append]; omega) ?_
        rw [S_app]
        walk_at "go"
        refine i_ixT t.sq (v := z) rfl ?_
        walk_at "go"
        refine ⟨z, r, o.lv + 1, rfl, d3, hL.2, sub r (by simp), by omega, ?_⟩
        refine i_addB (by rw [List.length_append, List.length_append, List.length_append, eL, eR]; simp only [List.length_cons, List.length_nil, List.length_append]; omega) ?_
        rw [S_app]
        have e2 : pO l o.lv ++ [32] ++ cs o.s ++ [32] ++ pO r (o.lv + 1) = pE (.bin o l r) := by rw [pE]; simp [pO]
        rw [e2]
        exact k
      | queue e =>
        obtain ⟨a, x, rfl, t, d1⟩ := ex_inv2 hd
        have hlen' := hlen
        rw [pE] at hlen'
        simp only [List.length_append, List.length_cons, List.length_nil] at hlen'
        walk_at "begin"
        refine i_ixT t.sq (v := .str "queue") rfl ?_
        walk_at "go"
        refine ifF (show decide (("queue" : Str) = "number") = false by decide +kernel) ?_
        walk_at "go"
        refine ifF (show decide (("queue" : Str) = "name") = false by decide +kernel) ?_
        walk_at "go"
        refine ifF (show decide (("queue" : Str) = "negative") = false by decide +kernel) ?_
        walk_at "go"
        refine ifF (show decide (("queue" : Str) = "binary") = false by decide +kernel) ?_
        walk_at "go"
        refine ifF (show decide (("queue" : Str) = "next") = false by decide +kernel) ?_
        walk_at "go"
        have eq : (("queue" : Str)) = S (cs "queue") := (S_cs _).symm
        have eql : (cs "queue").length = 5 := by decide +kernel
        refine ⟨"queue", "(", rfl, rfl, by decide +kernel, ?_⟩
        rw [show ("queue" : Str) ++ "(" = S (cs "queue" ++ [40]) by rw [z_lp]; conv => { lhs; rw [eq] }; rw [S_app]]
        walk_at "go"
        refine ifF (show decide (("queue" : Str) = "finished") = false by decide +kernel) ?_
        walk_at "go"
        refine i_ixT t.sq (v := x) rfl ?_
        walk_at "go"
        refine ⟨x, e, rfl, d1, hL, sub e (by simp), by omega, ?_⟩
        refine i_addB (by rw [List.length_append, eql]; simp only [List.length_cons, List.length_nil, List.length_append]; omega) ?_
        rw [S_app]
        walk_at "go"
        rw [z_rp]
        refine i_addB (by rw [List.length_append, List.length_append, eql]; simp only [List.length_cons, List.length_nil, List.length_append]; omega) ?_
        rw [S_app]
        have e2 : cs "queue" ++ [40] ++ pE e ++ [41] = pE (.queue e) := by rw [pE]; simp
        rw [e2]
        exact k
      | fin p =>
        obtain ⟨a, x, rfl, t, d1⟩ := ex_inv2 hd
        obtain rfl := dt_str d1
        have hlen' := hlen
        rw [pE] at hlen'
        simp only [List.length_append, List.length_cons, List.length_nil] at hlen'
        walk_at "begin"
        refine i_ixT t.sq (v := .str "finished") rfl ?_
        walk_at "go"
        refine ifF (show decide (("finished" : Str) = "number") = false by decide +kernel) ?_
        walk_at "go"
        refine ifF (show decide (("finished" : Str) = "name") = false by decide +kernel) ?_
        walk_at "go"
        refine ifF (show decide (("finished" : Str) = "negative") = false by decide +kernel) ?_
        walk_at "go"
        refine ifF (show decide (("finished" : Str) = "binary") = false by decide +kernel) ?_
        walk_at "go"
        refine ifF (show decide (("finished" : Str) = "next") = false by decide +kernel) ?_
        walk_at "go"
        have eq : (("finished" : Str)) = S (cs "finished") := (S_cs _).symm
        have eql : (cs "finished").length = 8 := by decide +kernel
        refine ⟨"finished", "(", rfl, rfl, by decide +kernel, ?_⟩
        rw [show ("finished" : Str) ++ "(" = S (cs "finished" ++ [40]) by rw [z_lp]; conv => { lhs; rw [eq] }; rw [S_app]]
        walk_at "go"
        refine ifT (show decide (("finished" : Str) = "finished") = true by decide +kernel) ?_
        walk_at "go"
        refine i_ixT t.sq (v := .str p) rfl ?_
        rw [← S_cs p]
        refine i_addB (by rw [List.length_append, eql]; simp only [List.length_cons, List.length_nil, List.length_append]; omega) ?_
        rw [S_app]
        walk_at "go"
        rw [z_rp]
        refine i_addB (by rw [List.length_append, List.length_append, eql]; simp only [List.length_cons, List.length_nil, List.length_append]; omega) ?_
        rw [S_app]
        have e2 : cs "finished" ++ [40] ++ cs p ++ [41] = pE (.fin p) := by rw [pE]; simp
        rw [e2]
        exact k
      | next =>
        obtain ⟨a, rfl, t⟩ := ex_inv1 hd
        walk_at "begin"
        refine i_ixT t.sq (v := .str "next") rfl ?_
        walk_at "go"
        refine ifF (show decide (("next" : Str) = "number") = false by decide +kernel) ?_
        walk_at "go"
        refine ifF (show decide (("next" : Str) = "name") = false by decide +kernel) ?_
        walk_at "go"
        refine ifF (show decide (("next" : Str) = "negative") = false by decide +kernel) ?_
        walk_at "go"
        refine ifF (show decide (("next" : Str) = "binary") = false by decide +kernel) ?_
        walk_at "go"
        refine ifT (show decide (("next" : Str) = "next") = true by decide +kernel) ?_
        walk_at "go"
        rw [show pE .next = cs "next" from rfl, S_cs] at k
        exact k
theorem ok_print_expression (A : All K mg) : ∀ d, Cal P w K mg base (2 * d + 1) "print_expression" (spPrE K d) := by
  have c_level_of := ok_level_of (P := P) (w := w) (base := base) A
  intro d
  induction d with
  | zero =>
    refine Cal.mono (j := 1) ?_ (by omega)
    refine cal_of A.d_print_expression sc_print_expression (fun _ _ _ _ _ _ us hl => match us, hl with | [_], _ => rfl) (fun vs H Q E h => ?_) (fun f cdv A' outer s H vs Q E hr h => ?_)
    · obtain ⟨v, e, rfl, _⟩ := h
      rfl
    · obtain ⟨v, e, rfl, _, _, h, _⟩ := h
      exact absurd h (Nat.not_lt_zero _)
  | succ d ih =>
    have po := ok_print_operand A c_level_of ih
    exact (ok_print_expression1 (lv := 2 * d + 2) A (by omega) c_level_of po (ih.mono (by omega))).mono (by omega)
theorem ok_print_target (A : All K mg) (d : Nat) : Cal P w K mg base (2 * d + 2) "print_target" (spPrT K d) := by
  have c_print_expression := ok_print_expression (P := P) (w := w) (base := base) A d
  refine cal_of A.d_print_target sc_print_target (fun _ _ _ _ _ _ us hl => match us, hl with | [_], _ => rfl) (fun vs H Q E h => ?_) (fun f cdv A' outer s H vs Q E hr h => ?_)
  · obtain ⟨v, t, rfl, _⟩ := h
    rfl
  · obtain ⟨v, t, rfl, hd, hL, hb, k⟩ := h
    refine ⟨_, (pss_one (ps_ret (pe_op op_add_str (pe_op op_add_str (pe_ix (k_ixT (K := K) rfl) (pv 0) pe_int (fun _ _ => rfl)) pe_str) (pe_ifExp (pt_cmpR op_eq (pe_ix (k_ixT (K := K) rfl) (pv 0) pe_int (fun _ _ => rfl)) pe_str (nomark _)) (pe_ix (k_ixT (K := K) rfl) (pv 0) pe_int (fun _ _ => rfl)) (pc c_print_expression hr (by omega) (pa_cons (pe_ix (k_ixT (K := K) rfl) (pv 0) pe_int (fun _ _ => rfl)) pa_nil)))))), ?_⟩
    cases t with
    | port p =>
      obtain ⟨a, x, rfl, t, d1⟩ := ex_inv2 hd
      obtain rfl := dt_str d1
      have hl := hL.2.2
      walk_at "begin"
      refine i_ixT t.sq (v := .str "port") rfl ?_
      walk_at "go"
      have eql : (cs "port").length = 4 := by decide +kernel
      refine ⟨"port", " ", rfl, rfl, by decide +kernel, ?_⟩
      rw [show ("port" : Str) ++ " " = S (cs "port" ++ [32]) by rw [z_spc]; conv => { lhs; rw [← S_cs "port"] }; rw [S_app]]
      walk_at "go"
      refine i_ixT t.sq (v := .str "port") rfl ?_
      walk_at "go"
      refine ifT (show decide (("port" : Str) = "port") = true by decide +kernel) ?_
      walk_at "go"
      refine i_ixT t.sq (v := .str p) rfl ?_
      rw [← S_cs p]
      refine i_addB (by rw [List.length_append, eql]; simp only [List.length_cons, List.length_nil]; omega) ?_
      rw [S_app]
      have e2 : cs "port" ++ [32] ++ cs p = pT (.port p) := by rw [pT]; simp
      rw [e2]
      exact k
    | station e =>
      obtain ⟨a, x, rfl, t, d1⟩ := ex_inv2 hd
      obtain ⟨hdp, hl⟩ := hb
      walk_at "begin"
      refine i_ixT t.sq (v := .str "station") rfl ?_
      walk_at "go"
      have eql : (cs "station").length = 7 := by decide +kernel
      refine ⟨"station", " ", rfl, rfl, by decide +kernel, ?_⟩
      rw [show ("station" : Str) ++ " " = S (cs "station" ++ [32]) by rw [z_spc]; conv => { lhs; rw [← S_cs "station"] }; rw [S_app]]
      walk_at "go"
      refine i_ixT t.sq (v := .str "station") rfl ?_
      walk_at "go"
      refine ifF (show decide (("station" : Str) = "port") = false by decide +kernel) ?_
      walk_at "go"
      refine i_ixT t.sq (v := x) rfl ?_
      walk_at "go"
      refine ⟨x, e, rfl, d1, hL, hdp, hl, ?_⟩
      refine i_addB (by rw [List.length_append, eql]; simp only [List.length_cons, List.length_nil]; omega) ?_
      rw [S_app]
      have e2 : cs "station" ++ [32] ++ pE e = pT (.station e) := by rw [pT]; simp
      rw [e2]
      exact k
end
end Fb
namespace Fb
open PySem PySem.Spec PyProof.Rows L2 PySem.HandSPX SX
theorem pBk_sub {n m : Nat} {h t : List Nat} {ls : List (List Nat)} (k : LnB n m (pBk h ls t)) : LnB n m ls ∧ h.length ≤ m := by
  unfold pBk at k
  by_cases e : ls = []
  · rw [if_pos e] at k
    subst e
    have := k.2 _ (List.mem_singleton.mpr rfl)
    rw [List.length_append] at this
    exact ⟨⟨Nat.zero_le _, fun l hl => nomatch hl⟩, by omega⟩
  · rw [if_neg e] at k
    have h1 := k.1
    have h2 := k.2 _ (List.mem_cons_self ..)
    simp only [List.length_cons, List.length_append, List.length_map, List.length_nil] at h1 h2
    refine ⟨⟨by omega, fun l hl => ?_⟩, by omega⟩
    have := k.2 (32 :: 32 :: l) (List.mem_cons_of_mem _ (List.mem_append_left _ (List.mem_map.mpr ⟨l, hl, rfl⟩)))
    simp only [List.length_cons] at this
    omega
theorem pElse_sub {n m : Nat} {h : List Nat} {la lb : List (List Nat)} (k : LnB n m (pElse (pBk h la [125]) lb)) : LnB n m la ∧ LnB n m lb ∧ h.length ≤ m := by
  unfold pElse at k
  by_cases e : lb = []
  · rw [if_pos e] at k
    subst e
    obtain ⟨h1, h2⟩ := pBk_sub k
    exact ⟨h1, ⟨Nat.zero_le _, fun l hl => nomatch hl⟩, h2⟩
  · rw [if_neg e] at k
    have kb : LnB n m (pBk ((pBk h la [125]).getLastD [] ++ 32 :: cs "else") lb [125]) := ⟨by have := k.1; rw [List.length_append] at this; omega, fun l hl => k.2 l (List.mem_append_right _ hl)⟩
    obtain ⟨h1, h2⟩ := pBk_sub kb
    have ka : LnB n m (pBk h la [125]).dropLast := ⟨by have := k.1; rw [List.length_append] at this; omega, fun l hl => k.2 l (List.mem_append_left _ hl)⟩
    unfold pBk at ka h2
    by_cases ea : la = []
    · subst ea
      rw [if_pos rfl] at h2
      simp at h2
      exact ⟨⟨Nat.zero_le _, fun l hl => nomatch hl⟩, h1, by omega⟩
    · rw [if_neg ea, ← List.cons_append, List.dropLast_concat] at ka
      have a1 := ka.1
      have a2 := ka.2 _ (List.mem_cons_self ..)
      simp only [List.length_cons, List.length_append, List.length_map, List.length_nil] at a1 a2
      refine ⟨⟨by omega, fun l hl => ?_⟩, h1, by omega⟩
      have := ka.2 (32 :: 32 :: l) (List.mem_cons_of_mem _ (List.mem_map.mpr ⟨l, hl, rfl⟩))
      simp only [List.length_cons] at this
      omega
theorem pB_sub {n m : Nat} {b : List Sm} (k : LnB n m (pB b)) : ∀ s ∈ b, LnB n m (pS s) := by
  induction b with
  | nil => intro s hs; nomatch hs
  | cons s b ih =>
    rw [pB] at k
    have h1 := k.1
    rw [List.length_append] at h1
    intro q hq
    rcases List.mem_cons.mp hq with rfl | hq
    · exact ⟨by omega, fun l hl => k.2 l (List.mem_append_left _ hl)⟩
    · exact ih ⟨by omega, fun l hl => k.2 l (List.mem_append_right _ hl)⟩ q hq
abbrev lnV (ls : List (List Nat)) : List V := ls.map fun l => V.str (S l)
def spPrS (K : PySem.W.Frag) (D d : Nat) : Sp := fun vs H Q _ => ∃ (v : V) (s : Sm), vs = [v] ∧ Dt K H v (smD s) ∧ smL s ∧ smW D d s ∧ LnB 2000000 2000000 (pS s) ∧ ∀ p H', H p = none → Same H H' → H' p = some (.lst (lnV (pS s))) → Q (.ref p) H'
def spPrL (K : PySem.W.Frag) (D d : Nat) : Sp := fun vs H Q _ => ∃ (v : V) (b : List Sm), vs = [v] ∧ Dt K H v (blkD b) ∧ blL b ∧ (∀ s ∈ b, smW D d s) ∧ LnB 2000000 2000000 (pB b) ∧ ∀ p H', H p = none → Same H H' → H' p = some (.lst (lnV (pB b))) → Q (.ref p) H'
def spPrB (K : PySem.W.Frag) (D d : Nat) : Sp := fun vs H Q _ => ∃ (v : V) (b : List Sm) (h t : List Nat), vs = [.str (S h), v, .str (S t)] ∧ Dt K H v (blkD b) ∧ blL b ∧ (∀ s ∈ b, smW D d s) ∧ LnB 2000000 2000000 (pB b) ∧ h.length ≤ 6000000 ∧ t.length ≤ 10 ∧ ∀ p H', H p = none → Same H H' → H' p = some (.lst (lnV (pBk h (pB b) t))) → Q (.ref p) H'
theorem lt_ok {z : Str} (h : ltW (cs z)) : PyData.strOk z = true := by
  unfold PyData.strOk
  rw [← Array.all_toList]
  refine List.all_eq_true.mpr fun c hc => decide_eq_true ?_
  have := List.all_eq_true.mp h.1 c hc
  unfold letN at this
  rw [Bool.and_eq_true, decide_eq_true_iff, decide_eq_true_iff] at this
  omega
theorem lay_tup (ds : List PyData) : (PyData.tuple ds).canLay0 = PyData.canLayAll0 ds := by rw [PyData.canLay0]
theorem lay_ex : ∀ e : Ex, exL e → (exD e).canLay0 = true := by
  intro e
  induction e with
  | num n => intro _; rw [exD, lay_tup]; simp only [PyData.canLayAll0, PyData.canLay0, Bool.and_true]; decide +kernel
  | name s => intro h; rw [exD, lay_tup]; simp only [PyData.canLayAll0, PyData.canLay0, lt_ok h.2, Bool.and_true]; decide +kernel
  | next => intro _; rw [exD, lay_tup]; decide +kernel
  | fin p => intro h; rw [exD, lay_tup]; simp only [PyData.canLayAll0, PyData.canLay0, lt_ok h, Bool.and_true]; decide +kernel
  | neg e ih => intro h; rw [exD, lay_tup]; simp only [PyData.canLayAll0, PyData.canLay0, ih h, Bool.and_true]; decide +kernel
  | queue e ih => intro h; rw [exD, lay_tup]; simp only [PyData.canLayAll0, PyData.canLay0, ih h, Bool.and_true]; decide +kernel
  | bin o l r il ir =>
    intro h
    rw [exD, lay_tup]
    simp only [PyData.canLayAll0, PyData.canLay0, il h.1, ir h.2, Bool.and_true]
    cases o <;> decide +kernel
theorem lay_tg : ∀ {t : Tg}, tgL t → (tgD t).canLay0 = true
  | .port p, h => by rw [tgD, lay_tup]; simp only [PyData.canLayAll0, PyData.canLay0, lt_ok h, Bool.and_true]; decide +kernel
  | .station e, h => by rw [tgD, lay_tup]; simp only [PyData.canLayAll0, PyData.canLay0, lay_ex e h, Bool.and_true]; decide +kernel
theorem lay_sm (n : Nat) : (∀ s : Sm, sizeOf s < n → smL s → (smD s).canLay0 = true) ∧ ∀ b : List Sm, sizeOf b < n → blL b → PyData.canLayAll0 (smsD b) = true := by
  induction n with
  | zero => exact ⟨fun s h => absurd h (by omega), fun s h => absurd h (by omega)⟩
  | succ n ih =>
    obtain ⟨iS, iB⟩ := ih
    have hS : ∀ s : Sm, sizeOf s < n + 1 → smL s → (smD s).canLay0 = true := by
      intro s hn h
      cases s with
      | simple k e =>
        rw [smL] at h
        rw [smD, lay_tup]
        simp only [PyData.canLayAll0, PyData.canLay0, lay_ex e h, Bool.and_true]
        cases k <;> decide +kernel
      | link a b t =>
        rw [smL] at h
        rw [smD, lay_tup]
        simp only [PyData.canLayAll0, PyData.canLay0, lay_ex a h.1, lay_ex b h.2.1, lay_tg h.2.2, Bool.and_true]
        decide +kernel
      | asg x e =>
        rw [smL] at h
        rw [smD, lay_tup]
        simp only [PyData.canLayAll0, PyData.canLay0, lay_ex e h.2, lt_ok h.1.2, Bool.and_true]
        decide +kernel
      | rep e b =>
        rw [smL] at h
        rw [smD, lay_tup]
        simp only [PyData.canLayAll0, PyData.canLay0, lay_ex e h.1, iB b (by simp at hn; omega) h.2, Bool.and_true]
        decide +kernel
      | ite l c r a b =>
        rw [smL] at h
        obtain ⟨h1, h2, h3, h4⟩ := h
        rw [smD, lay_tup]
        simp only [PyData.canLayAll0, PyData.canLay0, lay_ex l h1, lay_ex r h2, iB a (by simp at hn; omega) h3, iB b (by simp at hn; omega) h4, Bool.and_true]
        cases c <;> decide +kernel
    refine ⟨hS, fun b hn h => ?_⟩
    cases b with
    | nil => rw [smsD, PyData.canLayAll0]
    | cons s b =>
      rw [blL] at h
      rw [smsD, PyData.canLayAll0, hS s (by simp at hn; omega) h.1, iB b (by simp at hn; omega) h.2]
      rfl
theorem lay_blk {b : List Sm} (h : blL b) : (blkD b).canLay0 = true := by rw [lay_tup]; exact (lay_sm _).2 b (Nat.lt_succ_self _) h
theorem eqv_tup (xs ys : List PyData) : (PyData.tuple xs).eqv (.tuple ys) = PyData.eqvAll xs ys := by rw [PyData.eqv]
theorem eqv_empB (b : List Sm) : (blkD b).eqv (.tuple []) = decide (b = []) := by
  rw [eqv_tup]
  cases b with
  | nil => rw [smsD, PyData.eqvAll]; rfl
  | cons s b => rw [smsD]; simp [PyData.eqvAll]
theorem i_empB {K : PySem.W.Frag} {H : Hp} {Q : VK} {v : V} {q : Addr} {b : List Sm} (hd : Dt K H v (blkD b)) (hL : blL b) (hq : H q = some (.tup [])) (k : Q (.bl (decide (b = []))) H) : rEqM K v (.ref q) H Q :=
  ⟨blkD b, .tuple [], Dt.dp _ _ hd, .tup (SqT.of hq) .nil, lay_blk hL, by decide +kernel, Nat.le_trans (Nat.min_le_right _ _) (by decide +kernel), by rw [eqv_empB]; exact k⟩
section
variable {P : Program} {w : World} {K : PySem.W.Frag} {mg : Str → Option Value} {base : Heap}
theorem z_lb : (" {" : Str) = S [32, 123] := by decide +kernel
theorem z_ind : ("  " : Str) = S [32, 32] := by decide +kernel
theorem ok_print_block (A : All K mg) {D d lv : Nat} (hlv : 1 ≤ lv) (c_print_lines : Cal P w K mg base lv "print_lines" (spPrL K D d)) : Cal P w K mg base (lv + 1) "print_block" (spPrB K D d) := by
  refine cal_of A.d_print_block sc_print_block (fun _ _ _ _ _ _ us hl => match us, hl with | [_, _, _], _ => rfl) (fun vs H Q E h => ?_) (fun f cdv A' outer s H0 vs Q E hr h => ?_)
  · obtain ⟨v, b, h, t, rfl, _⟩ := h
    rfl
  · obtain ⟨v, b, h, t, rfl, hd, hL, hW, hB, hh, ht, k⟩ := h
    have hu200 := hu200_of hr
    obtain ⟨_, h_INDENT⟩ := A.c_INDENT
    refine ⟨_, (pss_cons (ps_if (pt_cmpR (k_eqM (K := K) rfl hu200) (pv 1) (pe_tup pa_nil) (nomark _)) (pss_one (ps_ret (pe_lst (pa_cons (pe_op op_add_str (pe_op op_add_str (pv 0) pe_str) (pv 2)) pa_nil)))) pss_nil)
 (pss_one (ps_ret (pe_op op_cat (pe_op op_cat (pe_lst (pa_cons (pe_op op_add_str (pv 0) pe_str) pa_nil)) (pe_lc rfl sc_print_block.nd (k_pl (K := K) rfl (pc c_print_lines hr (by omega) (pa_cons (pv 1) pa_nil))) (blkOk_by (own := [("line", 3)]) (N := ["head", "block", "tail", "line"]) (sc := defScope s_print_block) (by decide +kernel)) (fun _ _ _ _ _ => (pg_name (i := 3) sc_print_block.nd rfl (Or.inl rfl))) (fun _ _ _ _ _ => pts_nil) (fun _ _ _ _ _ => (pe_op op_add_str (pe_glob (v := .str "  ") rfl h_INDENT ⟨_, rfl⟩) (pv 3))))) (pe_lst (pa_cons (pv 2) pa_nil)))))), ?_⟩
    have st : Stt [] H0 [] [] H0 := Stt.init H0
    have hn := hB.1
    walk_at "begin"
    refine ⟨sz_of (by simp), fun q nq => ?_⟩
    have e1 : Same H0 (upd H0 q (.tup [])) := Same.new nq
    walk_at "go"
    refine i_empB (hd.keep_of (TK.same e1)) hL upd_same ?_
    refine i_bl ?_
    have st := st.ext e1
    have hd := hd.keep_of (TK.same e1)
    generalize upd H0 q (.tup []) = H1 at st hd
    by_cases hb : b = []
    · refine ifT (decide_eq_true hb) ?_
      walk_at "go"
      rw [z_lb]
      refine i_addB (by simp only [List.length_cons, List.length_nil]; omega) ?_
      rw [S_app]
      walk_at "go"
      refine i_addB (by simp only [List.length_cons, List.length_nil, List.length_append]; omega) ?_
      rw [S_app]
      walk_at "go"
      refine st_newLB st (by simp) fun p np st => ?_
      refine k p _ (st.isNew 0 rfl) st.same ?_
      rw [show pBk h (pB b) t = [h ++ 32 :: 123 :: t] by unfold pBk; rw [if_pos (pB_nil.mpr hb)]]
      rw [upd_same]
      simp
    · refine ifF (decide_eq_false hb) ?_
      refine i_next ?_
      walk_at "go"
      rw [z_lb]
      refine i_addB (by simp only [List.length_cons, List.length_nil]; omega) ?_
      rw [S_app]
      walk_at "go"
      refine st_newLB st (by simp) fun p np st => ?_
      walk_at "go"
      refine ⟨v, b, rfl, hd.keep_of (TK.same (Same.new np)), hL, hW, hB, fun ll H2 nll e2 hll => ?_⟩
      have st := st.ext e2
      refine ⟨ll, rfl, ⟨_, SqL.of hll⟩, LcIt.map (walk_list (xs := lnV (pB b))) (lnV ((pB b).map fun l => 32 :: 32 :: l)) (by simp) (szBlt (by rw [List.length_map]; omega)) (fun H3 e3 => SqL.of (e3 _ _ hll)) ?_ ?_⟩
      · rintro j x y H3 H4 N hj hy e3 ⟨rfl, hx⟩ hN
        have hj' : j < (pB b).length := by simpa using hj
        have el : (pB b)[j]? = some (pB b)[j] := List.getElem?_eq_getElem hj'
        generalize (pB b)[j] = l at el
        have hll2 := hB.2 l (List.mem_of_getElem? el)
        obtain rfl : V.str (S l) = x := by
          have hx : (lnV (pB b))[j]? = some x := hx
          rw [List.getElem?_map, el] at hx
          exact Option.some.inj hx
        obtain rfl : V.str (S (32 :: 32 :: l)) = y := by
          rw [List.getElem?_map, List.getElem?_map, el] at hy
          exact Option.some.inj hy
        walk_at "go"
        refine ⟨rfl, ?_⟩
        walk_at "go"
        rw [z_ind]
        refine i_addB (by simp only [List.length_cons, List.length_nil]; omega) ?_
        rw [S_app]
        exact hN _ (Same.refl _)
      · intro Dl H3 nD e3 hD
        have st := st.fresh nD e3 hD trivial
        refine st_catB st (st.at 0 rfl) (st.at 1 rfl) (by simp; omega) fun p2 H4 np2 e4 st => ?_
        walk_at "go"
        refine st_newLB st (by simp) fun p3 np3 st => ?_
        refine st_catB st (st.at 2 rfl) (st.at 3 rfl) (by simp; omega) fun p4 H5 np4 e5 st => ?_
        refine k p4 _ (st.isNew 4 rfl) st.same ?_
        rw [show pBk h (pB b) t = (h ++ [32, 123]) :: ((pB b).map (fun l => 32 :: 32 :: l) ++ [t]) by unfold pBk; rw [if_neg (fun q => hb (pB_nil.mp q))]]
        rw [st.at 4 rfl]
        simp
theorem ok_print_lines (A : All K mg) {D d lv : Nat} (hlv : 1 ≤ lv) (c_print_statement : Cal P w K mg base lv "print_statement" (spPrS K D d)) : Cal P w K mg base (lv + 1) "print_lines" (spPrL K D d) := by
  refine cal_of A.d_print_lines sc_print_lines (fun _ _ _ _ _ _ us hl => match us, hl with | [_], _ => rfl) (fun vs H Q E h => ?_) (fun f cdv A' outer s H0 vs Q E hr h => ?_)
  · obtain ⟨v, b, rfl, _⟩ := h
    rfl
  · obtain ⟨v, b, rfl, hd, hL, hW, hB, k⟩ := h
    refine ⟨_, (pss_cons (ps_set (i := 1) sc_print_lines.nd rfl (Or.inl rfl) (pe_lst pa_nil))
 (pss_cons (ps_for PassesOwn.never rfl (k_pt (K := K) rfl (pv 0)) (pg_name (i := 2) sc_print_lines.nd rfl (Or.inl rfl))
 (pss_one (ps_expr (pe_bm PySem.F.plainAttrs_list PySem.F.slot_list_extend PySem.F.type_list_extend mt_extend (pv 1) (pa_cons (pc c_print_statement hr (by omega) (pa_cons (pv 2) pa_nil)) pa_nil)))))
 (pss_one (ps_ret (pv 1))))), ?_⟩
    have st : Stt [] H0 [] [] H0 := Stt.init H0
    obtain ⟨a, xs, rfl, ta, da⟩ := hd.tup_inv
    rw [smsD_map] at da
    have hxl : xs.length = b.length := by rw [da.len, List.length_map]
    walk_at "begin"
    refine st_newLB st (by simp) fun p np st => ?_
    walk_at "go"
    refine ⟨a, rfl, ⟨_, (ta.keep st.tk).sq⟩, ForIt.go (walk_tup (xs := xs)) (fun j σ H => ∃ s2, σ = [some (.ref a), some (.ref p), s2] ∧ Stt [] H0 [(p, .lst (lnV (pB (b.take j))))] [] H) ⟨_, rfl, (show Stt [] H0 [(p, .lst [])] [] _ from st)⟩ (fun j σ H _ q => ?_) ?_ ?_⟩
    · obtain ⟨_, _, st⟩ := q
      exact (ta.keep st.tk).sq
    · rintro j x σ H H' hj ⟨s2, rfl, st⟩ ⟨rfl, hx⟩
      have hx : xs[j]? = some x := hx
      obtain ⟨dd, e1, dx⟩ := da.get hx
      rw [List.getElem?_map] at e1
      obtain ⟨s, es, rfl⟩ : ∃ s, b[j]? = some s ∧ smD s = dd := by
        cases q : b[j]? with
        | none => rw [q] at e1; cases e1
        | some s => rw [q] at e1; exact ⟨s, rfl, Option.some.inj e1⟩
      have hm := List.mem_of_getElem? es
      have hsub := pB_sub hB s hm
      walk_at "go"
      refine i_tyL (st.sqL 0 rfl) ?_
      walk_at "go"
      refine ⟨x, s, rfl, dx.keep_of st.tk, blL_mem.mp hL s hm, hW s hm, hsub, fun l H1 nl e2 hl => ?_⟩
      have st := st.fresh nl e2 hl trivial
      walk_at "go"
      have et : b.take (j + 1) = b.take j ++ [s] := by rw [List.take_succ, es]; rfl
      have hle : (pB (b.take j)).length + (pS s).length ≤ 4000000 := by
        have h1 : (pB b).length = (pB (b.take j)).length + (pB (b.drop j)).length := by
          rw [← List.length_append, ← pB_append, List.take_append_drop]
        have := hB.1
        have := hsub.1
        omega
      refine st_extendB st 0 rfl (st.at 1 rfl) (by rw [List.length_map, List.length_map]; omega) fun H2 st => ?_
      refine ⟨_, rfl, ?_⟩
      have st := st.picks [0] (by decide) (L' := [(p, .lst (lnV (pB (b.take j)) ++ lnV (pS s)))]) rfl
      rw [et, pB_append, pB, pB, List.append_nil]
      rw [show lnV (pB (b.take j) ++ pS s) = lnV (pB (b.take j)) ++ lnV (pS s) by simp [lnV]]
      exact st
    · rintro σ H ⟨s2, rfl, st⟩
      walk_at "go"
      refine k p H (st.isNew 0 rfl) st.same ?_
      rw [st.at 0 rfl, hxl, List.take_length]
end
end Fb
namespace Fb
open PySem PySem.Spec PyProof.Rows L2 PySem.HandSPX SX
theorem k_slLq {X : Cx} {K : PySem.W.Frag} (h : X.K = K) : SlR X (rSlL K) := h ▸ sl_list
theorem i_addA {a b : Str} {N : Str → Str → Prop} (hz : (cs a).length + (cs b).length ≤ 16000000) (q : N a b) : ∃ i j, V.str a = .str i ∧ V.str b = .str j ∧ i.length + j.length ≤ sizeLine ∧ N i j :=
  ⟨_, _, rfl, rfl, szB (by
    have ha : a.length = (cs a).length := by rw [← S_cs a, S_len, S_cs]
    have hb : b.length = (cs b).length := by rw [← S_cs b, S_len, S_cs]
    omega), q⟩
theorem app_cs (a b : Str) : a ++ b = S (cs a ++ cs b) := by rw [← S_app, S_cs, S_cs]
theorem i_slRest {K : PySem.W.Frag} {H : Hp} {Q : VK} {a : Addr} {xs : List V} (h : TupAt K H a xs) (k : ∀ p H', Same H H' → TupAt K H' p (xs.drop 1) → Q (.ref p) H') : rSlA K (.ref a) (some 1) none H Q := by
  refine ⟨a, xs, rfl, h.sq, fun e => ?_, fun e p hp => ?_⟩
  · rw [HT.sIx_none] at e
    have e1 := e.1
    rw [show (1 : Int) = ((1 : Nat) : Int) from rfl, HT.sIx_nat] at e1
    have : xs = [] := List.length_eq_zero_iff.mp (by omega)
    subst this
    exact k a H (Same.refl _) h
  · have : cutV xs (some 1) none = xs.drop 1 := by
      unfold cutV
      rw [show (1 : Int) = ((1 : Nat) : Int) from rfl, HT.sIx_nat, HT.sIx_none]
      by_cases hx : xs = []
      · subst hx; rfl
      · have : 1 ≤ xs.length := List.length_pos_iff.mpr hx
        rw [Nat.min_eq_left this]
        exact List.take_of_length_le (by rw [List.length_drop]; omega)
    rw [this]
    exact k p _ (Same.new hp) (.inl upd_same)
theorem i_slLast {K : PySem.W.Frag} {H : Hp} {Q : VK} {a : Addr} {xs : List V} (h : SqL K H a xs) (k : ∀ p, H p = none → Q (.ref p) (upd H p (.lst (xs.take (xs.length - 1))))) : rSlL K (.ref a) none (some (-1)) H Q := by
  have e : HT.sIx xs.length xs.length (some (-1)) = xs.length - 1 := by
    show (if (-1 : Int) < 0 then (-1 + (xs.length : Int)).toNat else min ((-1 : Int)).toNat xs.length) = _
    rw [if_pos (by decide)]
    omega
  refine ⟨a, xs, rfl, h, fun p hp => ?_⟩
  have : cutV xs none (some (-1)) = xs.take (xs.length - 1) := by
    unfold cutV
    rw [e, HT.sIx_none, List.drop_zero, Nat.sub_zero]
  rw [this]
  exact k p hp
theorem bool_ff {a b : Str} (h : a ≠ b) : decide (a = b) = false := decide_eq_false h
theorem kw_ne (k : Kw) : k.s ≠ "let" ∧ k.s ≠ "link" ∧ k.s ≠ "repeat" ∧ k.s ≠ "if" := by cases k <;> decide +kernel
theorem LnB.len1 {n m : Nat} {l : List Nat} (h : LnB n m [l]) : l.length ≤ m := h.2 l (List.mem_singleton.mpr rfl)
section
variable {P : Program} {w : World} {K : PySem.W.Frag} {mg : Str → Option Value} {base : Heap}
set_option maxHeartbeats 0 in
theorem ok_print_statement (A : All K mg) {D d lv : Nat} (hlv : 1 ≤ lv) (c_print_expression : Cal P w K mg base lv "print_expression" (spPrE K (D + 1))) (c_print_target : Cal P w K mg base lv "print_target" (spPrT K (D + 1))) (c_print_block : Cal P w K mg base lv "print_block" (spPrB K D d)) : Cal P w K mg base (lv + 1) "print_statement" (spPrS K D (d + 1)) := by
  refine cal_of A.d_print_statement sc_print_statement (fun _ _ _ _ _ _ us hl => match us, hl with | [_], _ => rfl) (fun vs H Q E h => ?_) (fun f cdv A' outer s0 H0 vs Q E hr h => ?_)
  · obtain ⟨v, s, rfl, _⟩ := h
    rfl
  · obtain ⟨v, s, rfl, hd, hL, hW, hB, k⟩ := h
    have hu200 := hu200_of hr
    refine ⟨_, (pss_cons (ps_set (i := 1) sc_print_statement.nd rfl (Or.inl rfl) (pe_ix (k_ixT (K := K) rfl) (pv 0) pe_int (fun _ _ => rfl)))
 (pss_cons (ps_if (pt_cmpR op_eq (pv 1) pe_str (nomark _)) (pss_one (ps_ret (pe_lst (pa_cons (pe_op op_add_str (pe_op op_add_str (pe_op op_add_str (pe_op op_add_str pe_str (pe_ix (k_ixT (K := K) rfl) (pv 0) pe_int (fun _ _ => rfl))) pe_str) (pc c_print_expression hr (by omega) (pa_cons (pe_ix (k_ixT (K := K) rfl) (pv 0) pe_int (fun _ _ => rfl)) pa_nil))) pe_str) pa_nil)))) pss_nil)
 (pss_cons (ps_if (pt_cmpR op_eq (pv 1) pe_str (nomark _)) (pss_cons (ps_par (i := 2) (j := 3) (by rfl) sc_print_statement.nd rfl rfl (by decide) rfl rfl (pa_cons (pc c_print_expression hr (by omega) (pa_cons (pe_ix (k_ixT (K := K) rfl) (pv 0) pe_int (fun _ _ => rfl)) pa_nil)) (pa_cons (pc c_print_expression hr (by omega) (pa_cons (pe_ix (k_ixT (K := K) rfl) (pv 0) pe_int (fun _ _ => rfl)) pa_nil)) pa_nil)) (by rfl))
 (pss_one (ps_ret (pe_lst (pa_cons (pe_op op_add_str (pe_op op_add_str (pe_op op_add_str (pe_op op_add_str (pe_op op_add_str (pe_op op_add_str pe_str (pv 2)) pe_str) (pv 3)) pe_str) (pc c_print_target hr (by omega) (pa_cons (pe_ix (k_ixT (K := K) rfl) (pv 0) pe_int (fun _ _ => rfl)) pa_nil))) pe_str) pa_nil))))) pss_nil)
 (pss_cons (ps_if (pt_cmpR op_eq (pv 1) pe_str (nomark _)) (pss_one (ps_ret (pc c_print_block hr (by omega) (pa_cons (pe_op op_add_str pe_str (pc c_print_expression hr (by omega) (pa_cons (pe_ix (k_ixT (K := K) rfl) (pv 0) pe_int (fun _ _ => rfl)) pa_nil))) (pa_cons (pe_ix (k_ixT (K := K) rfl) (pv 0) pe_int (fun _ _ => rfl)) (pa_cons pe_str pa_nil)))))) pss_nil)
 (pss_cons (ps_if (pt_cmpR op_eq (pv 1) pe_str (nomark _)) (pss_cons (ps_asg (pe_slice (k_slTA (K := K) rfl) (pv 0) (po_some pe_int) po_none) (k_tg (K := K) (n := 5) rfl rfl (pgs_cons (pg_name (i := 4) sc_print_statement.nd rfl (Or.inl rfl)) (pgs_cons (pg_name (i := 5) sc_print_statement.nd rfl (Or.inl rfl)) (pgs_cons (pg_name (i := 6) sc_print_statement.nd rfl (Or.inl rfl)) (pgs_cons (pg_name (i := 7) sc_print_statement.nd rfl (Or.inl rfl)) (pgs_cons (pg_name (i := 8) sc_print_statement.nd rfl (Or.inl rfl)) pgs_nil)))))))
 (pss_cons (ps_set (i := 9) sc_print_statement.nd rfl (Or.inl rfl) (pe_op op_add_str (pe_op op_add_str (pe_op op_add_str (pe_op op_add_str (pe_op op_add_str pe_str (pc c_print_expression hr (by omega) (pa_cons (pv 4) pa_nil))) pe_str) (pv 5)) pe_str) (pc c_print_expression hr (by omega) (pa_cons (pv 6) pa_nil))))
 (pss_cons (ps_if (pt_cmpR (k_eqM (K := K) rfl hu200) (pv 8) (pe_tup pa_nil) (nomark _)) (pss_one (ps_ret (pc c_print_block hr (by omega) (pa_cons (pv 9) (pa_cons (pv 7) (pa_cons pe_str pa_nil)))))) pss_nil)
 (pss_cons (ps_set (i := 10) sc_print_statement.nd rfl (Or.inl rfl) (pc c_print_block hr (by omega) (pa_cons (pv 9) (pa_cons (pv 7) (pa_cons pe_str pa_nil)))))
 (pss_one (ps_ret (pe_op op_cat (pe_slice (k_slLq (K := K) rfl) (pv 10) po_none (po_some (pe_un un_neg pe_int))) (pc c_print_block hr (by omega) (pa_cons (pe_op op_add_str (pe_ix (k_ixL (K := K) rfl) (pv 10) (pe_un un_neg pe_int) (fun _ _ => rfl)) pe_str) (pa_cons (pv 8) (pa_cons pe_str pa_nil))))))))))) pss_nil)
 (pss_one (ps_ret (pe_lst (pa_cons (pe_op op_add_str (pe_op op_add_str (pe_op op_add_str (pv 1) pe_str) (pc c_print_expression hr (by omega) (pa_cons (pe_ix (k_ixT (K := K) rfl) (pv 0) pe_int (fun _ _ => rfl)) pa_nil))) pe_str) pa_nil))))))))), ?_⟩
    have st : Stt [] H0 [] [] H0 := Stt.init H0
    have fin : ∀ {l : List Nat} {z : Str} {N : Addr → Prop}, pS s = [l] → z = S l → (∀ p, H0 p = none → Q (.ref p) (upd H0 p (.lst [.str z])) → N p) → ([V.str z] : List V).length ≤ sizeLine ∧ ∀ p, H0 p = none → N p := by
      intro l z N e1 e2 hN
      refine ⟨sz_of (by simp), fun p np => hN p np ?_⟩
      refine k p _ np (Same.new np) ?_
      rw [upd_same, e1, e2]
      rfl
    cases s with
    | simple kw e =>
      rw [smL] at hL
      rw [smD] at hd
      obtain ⟨a, x, rfl, t, d1⟩ := ex_inv2 hd
      obtain ⟨n1, n2, n3, n4⟩ := kw_ne kw
      have hl := hB.len1
      simp only [List.length_append, List.length_cons, List.length_nil] at hl
      walk_at "begin"
      refine i_ixT t.sq (v := .str kw.s) rfl ?_
      walk_at "go"
      refine ifF (bool_ff n1) ?_
      walk_at "go"
      refine ifF (bool_ff n2) ?_
      walk_at "go"
      refine ifF (bool_ff n3) ?_
      walk_at "go"
      refine ifF (bool_ff n4) ?_
      walk_at "go"
      refine i_addA (by rw [show (cs " ").length = 1 by decide +kernel]; omega) ?_
      rw [app_cs]
      walk_at "go"
      refine i_ixT t.sq (v := x) rfl ?_
      walk_at "go"
      refine ⟨x, e, rfl, d1, hL, Nat.lt_succ_of_le hW.2, by omega, ?_⟩
      rw [show cs " " = [32] by decide +kernel]
      refine i_addB (by simp only [List.length_append, List.length_cons, List.length_nil]; omega) ?_
      rw [S_app]
      walk_at "go"
      rw [show (";" : Str) = S [59] by decide +kernel]
      refine i_addB (by simp only [List.length_append, List.length_cons, List.length_nil]; omega) ?_
      rw [S_app]
      walk_at "go"
      refine fin (l := cs kw.s ++ 32 :: (pE e ++ [59])) (by rw [pS]) (by simp) fun p np q => q
    | link ea eb tg =>
      rw [smL] at hL
      rw [smD] at hd
      obtain ⟨h1, h2, h3⟩ := hL
      obtain ⟨w1, w2, w3⟩ := hW
      obtain ⟨a, x, y, z, rfl, t, d1, d2, d3⟩ := ex_inv4 hd
      have el : (cs "link").length = 4 := by decide +kernel
      have hl := hB.len1
      rw [List.length_append, el] at hl
      simp only [List.length_append, List.length_cons, List.length_nil] at hl
      walk_at "begin"
      refine i_ixT t.sq (v := .str "link") rfl ?_
      walk_at "go"
      refine ifF (bool_ff (by decide +kernel)) ?_
      walk_at "go"
      refine ifT (decide_eq_true rfl) ?_
      walk_at "go"
      refine i_ixT t.sq (v := x) rfl ?_
      walk_at "go"
      refine ⟨x, ea, rfl, d1, h1, Nat.lt_succ_of_le w1.2, by omega, ?_⟩
      walk_at "go"
      refine i_ixT t.sq (v := y) rfl ?_
      walk_at "go"
      refine ⟨y, eb, rfl, d2, h2, Nat.lt_succ_of_le w2.2, by omega, ?_⟩
      refine ⟨_, _, rfl, ?_⟩
      walk_at "go"
      refine i_addA (by rw [show (cs "link ").length = 5 by decide +kernel, cs_S]; omega) ?_
      rw [app_cs]
      walk_at "go"
      refine i_addA (by rw [cs_S, List.length_append, show (cs "link ").length = 5 by decide +kernel, show (cs ", ").length = 2 by decide +kernel, cs_S]; omega) ?_
      rw [app_cs]
      walk_at "go"
      refine i_addA (by simp only [cs_S, List.length_append]; rw [show (cs "link ").length = 5 by decide +kernel, show (cs ", ").length = 2 by decide +kernel]; omega) ?_
      rw [app_cs]
      walk_at "go"
      refine i_addA (by simp only [cs_S, List.length_append]; rw [show (cs "link ").length = 5 by decide +kernel, show (cs ", ").length = 2 by decide +kernel]; omega) ?_
      rw [app_cs]
      walk_at "go"
      refine i_ixT t.sq (v := z) rfl ?_
      walk_at "go"
      refine ⟨z, tg, rfl, d3, h3, ?_, ?_⟩
      · cases tg with
        | port p => trivial
        | station e =>
          have el2 : (cs "station").length = 7 := by decide +kernel
          have : (pT (.station e)).length = (pE e).length + 8 := by rw [pT, List.length_append, el2, List.length_cons]; omega
          exact ⟨Nat.lt_succ_of_le w3.2, by omega⟩
      refine i_addA (by simp only [cs_S, List.length_append]; rw [show (cs "link ").length = 5 by decide +kernel, show (cs ", ").length = 2 by decide +kernel]; omega) ?_
      rw [app_cs]
      walk_at "go"
      refine i_addA (by simp only [cs_S, List.length_append]; rw [show (cs "link ").length = 5 by decide +kernel, show (cs ", ").length = 2 by decide +kernel, show (cs ";").length = 1 by decide +kernel]; omega) ?_
      rw [app_cs]
      walk_at "go"
      refine fin (l := cs "link" ++ 32 :: (pE ea ++ 44 :: 32 :: (pE eb ++ 44 :: 32 :: (pT tg ++ [59])))) (by rw [pS]) ?_ fun p np q => q
      simp only [cs_S]
      rw [show cs "link " = cs "link" ++ [32] by decide +kernel, show cs ", " = [44, 32] by decide +kernel, show cs ";" = [59] by decide +kernel]
      simp
    | asg z e =>
      rw [smL] at hL
      rw [smD] at hd
      obtain ⟨⟨h1, h1'⟩, h2⟩ := hL
      obtain ⟨w1, w2, w3⟩ := hW
      obtain ⟨a, x, y, rfl, t, d1, d2⟩ := ex_inv3 hd
      obtain rfl := dt_str d1
      have el : (cs "let").length = 3 := by decide +kernel
      have hl := hB.len1
      rw [List.length_append, el] at hl
      simp only [List.length_append, List.length_cons, List.length_nil] at hl
      walk_at "begin"
      refine i_ixT t.sq (v := .str "let") rfl ?_
      walk_at "go"
      refine ifT (decide_eq_true rfl) ?_
      walk_at "go"
      refine i_ixT t.sq (v := .str z) rfl ?_
      refine i_addA (by rw [show (cs "let ").length = 4 by decide +kernel]; omega) ?_
      rw [app_cs]
      walk_at "go"
      refine i_addA (by rw [cs_S, List.length_append, show (cs "let ").length = 4 by decide +kernel, show (cs " = ").length = 3 by decide +kernel]; omega) ?_
      rw [app_cs]
      walk_at "go"
      refine i_ixT t.sq (v := y) rfl ?_
      walk_at "go"
      refine ⟨y, e, rfl, d2, h2, Nat.lt_succ_of_le w3, by omega, ?_⟩
      refine i_addA (by simp only [cs_S, List.length_append]; rw [show (cs "let ").length = 4 by decide +kernel, show (cs " = ").length = 3 by decide +kernel]; omega) ?_
      rw [app_cs]
      walk_at "go"
      refine i_addA (by simp only [cs_S, List.length_append]; rw [show (cs "let ").length = 4 by decide +kernel, show (cs " = ").length = 3 by decide +kernel, show (cs ";").length = 1 by decide +kernel]; omega) ?_
      rw [app_cs]
      walk_at "go"
      refine fin (l := cs "let" ++ 32 :: (cs z ++ 32 :: 61 :: 32 :: (pE e ++ [59]))) (by rw [pS]) ?_ fun p np q => q
      simp only [cs_S]
      rw [show cs "let " = cs "let" ++ [32] by decide +kernel, show cs " = " = [32, 61, 32] by decide +kernel, show cs ";" = [59] by decide +kernel]
      simp
    | rep e b =>
      rw [smL] at hL
      rw [smD] at hd
      rw [pS] at hB k
      obtain ⟨h1, h2⟩ := hL
      obtain ⟨w1, w2⟩ := hW
      obtain ⟨a, x, y, rfl, t, d1, d2⟩ := ex_inv3 hd
      obtain ⟨hBb, hh⟩ := pBk_sub hB
      have el : (cs "repeat").length = 6 := by decide +kernel
      have hh2 : 6 + ((pE e).length + 1) ≤ 2000000 := by
        have : (hdRep e).length = 6 + ((pE e).length + 1) := by unfold hdRep; rw [List.length_append, el, List.length_cons]
        omega
      walk_at "begin"
      refine i_ixT t.sq (v := .str "repeat") rfl ?_
      walk_at "go"
      refine ifF (bool_ff (by decide +kernel)) ?_
      walk_at "go"
      refine ifF (bool_ff (by decide +kernel)) ?_
      walk_at "go"
      refine ifT (decide_eq_true rfl) ?_
      walk_at "go"
      refine i_ixT t.sq (v := x) rfl ?_
      walk_at "go"
      refine ⟨x, e, rfl, d1, h1, Nat.lt_succ_of_le w1.2, by omega, ?_⟩
      refine i_addA (by rw [show (cs "repeat ").length = 7 by decide +kernel, cs_S]; omega) ?_
      rw [app_cs, cs_S, show cs "repeat " ++ pE e = hdRep e by rw [show cs "repeat " = cs "repeat" ++ [32] by decide +kernel]; unfold hdRep; simp]
      walk_at "go"
      refine i_ixT t.sq (v := y) rfl ?_
      walk_at "go"
      exact ⟨y, b, hdRep e, [125], by rw [show ("}" : Str) = S [125] by decide +kernel], d2, h2, w2, hBb, by omega, by decide, k⟩
    | ite l c r ba bb =>
      rw [smL] at hL
      rw [smD] at hd
      rw [pS] at hB k
      obtain ⟨h1, h2, h3, h4⟩ := hL
      obtain ⟨w1, w2, w3, w4⟩ := hW
      obtain ⟨a, x1, x2, x3, x4, x5, rfl, t, d1, d2, d3, d4, d5⟩ := ex_inv6 hd
      obtain rfl := dt_str d2
      obtain ⟨hBa, hBb, hh⟩ := pElse_sub hB
      have el : (cs "if").length = 2 := by decide +kernel
      have hh2 : 2 + ((pE l).length + ((cs c.s).length + ((pE r).length + 1) + 1) + 1) ≤ 2000000 := by
        have : (hdIf l c r).length = 2 + ((pE l).length + ((cs c.s).length + ((pE r).length + 1) + 1) + 1) := by
          unfold hdIf
          rw [List.length_append, el, List.length_cons, List.length_append, List.length_cons, List.length_append, List.length_cons]
        omega
      walk_at "begin"
      refine i_ixT t.sq (v := .str "if") rfl ?_
      walk_at "go"
      refine ifF (bool_ff (by decide +kernel)) ?_
      walk_at "go"
      refine ifF (bool_ff (by decide +kernel)) ?_
      walk_at "go"
      refine ifF (bool_ff (by decide +kernel)) ?_
      walk_at "go"
      refine ifT (decide_eq_true rfl) ?_
      walk_at "go"
      refine i_slFrB ?_
      walk_at "go"
      refine ⟨_, rfl, i_slRest t fun p H1 e1 tp => ?_⟩
      have st := st.ext e1
      have d1 := d1.keep_of (TK.same e1)
      have d3 := d3.keep_of (TK.same e1)
      have d4 := d4.keep_of (TK.same e1)
      have d5 := d5.keep_of (TK.same e1)
      refine i_gtup (xs := [x1, .str c.s, x3, x4, x5]) tp.sq rfl ?_
      walk_at "go"
      refine ⟨x1, l, rfl, d1, h1, Nat.lt_succ_of_le w1.2, by omega, ?_⟩
      have e3 : (cs "if ").length = 3 := by decide +kernel
      have esp : (cs " ").length = 1 := by decide +kernel
      refine i_addA (by rw [e3, cs_S]; omega) ?_
      rw [app_cs]
      walk_at "go"
      refine i_addA (by simp only [cs_S, List.length_append]; rw [e3, esp]; omega) ?_
      rw [app_cs]
      walk_at "go"
      refine i_addA (by simp only [cs_S, List.length_append]; rw [e3, esp]; omega) ?_
      rw [app_cs]
      walk_at "go"
      refine i_addA (by simp only [cs_S, List.length_append]; rw [e3, esp]; omega) ?_
      rw [app_cs]
      walk_at "go"
      refine ⟨x3, r, rfl, d3, h2, Nat.lt_succ_of_le w2.2, by omega, ?_⟩
      refine i_addA (by simp only [cs_S, List.length_append]; rw [e3, esp]; omega) ?_
      rw [app_cs]
      have ehd : cs (S (cs (S (cs (S (cs (S (cs "if " ++ cs (S (pE l)))) ++ cs " ")) ++ cs c.s)) ++ cs " ")) ++ cs (S (pE r)) = hdIf l c r := by
        simp only [cs_S]
        rw [show cs "if " = cs "if" ++ [32] by decide +kernel, show cs " " = [32] by decide +kernel]
        unfold hdIf
        simp
      rw [ehd]
      walk_at "go"
      refine ⟨sz_of (by simp), fun q nq => ?_⟩
      have e2 : Same H1 (upd H1 q (.tup [])) := Same.new nq
      have st := st.ext e2
      have d4 := d4.keep_of (TK.same e2)
      have d5 := d5.keep_of (TK.same e2)
      refine i_empB d5 h4 upd_same ?_
      generalize upd H1 q (.tup []) = H2 at st d4 d5
      refine i_bl ?_
      have hhd : (hdIf l c r).length ≤ 6000000 := by
        have : (hdIf l c r).length = 2 + ((pE l).length + ((cs c.s).length + ((pE r).length + 1) + 1) + 1) := by
          unfold hdIf
          rw [List.length_append, el, List.length_cons, List.length_append, List.length_cons, List.length_append, List.length_cons]
        omega
      have z_rb : ("}" : Str) = S [125] := by decide +kernel
      by_cases hb : bb = []
      · refine ifT (decide_eq_true hb) ?_
        walk_at "go"
        refine ⟨x4, ba, hdIf l c r, [125], by rw [z_rb], d4, h3, w3, hBa, hhd, by decide, fun p2 H3 np2 e3 hp2 => ?_⟩
        have st := st.fresh np2 e3 hp2 trivial
        refine k p2 H3 (st.isNew 0 rfl) st.same ?_
        rw [hp2, show pElse (pBk (hdIf l c r) (pB ba) [125]) (pB bb) = pBk (hdIf l c r) (pB ba) [125] by unfold pElse; rw [if_pos (pB_nil.mpr hb)]]
      · refine ifF (decide_eq_false hb) ?_
        refine i_next ?_
        walk_at "go"
        refine ⟨x4, ba, hdIf l c r, [125], by rw [z_rb], d4, h3, w3, hBa, hhd, by decide, fun p2 H3 np2 e3 hp2 => ?_⟩
        have st := st.fresh np2 e3 hp2 trivial
        have d5 := d5.keep_of (TK.same e3)
        have hne := pBk_ne (hdIf l c r) (pB ba) [125]
        have hlast := pBk_last (hdIf l c r) (pB ba)
        have hcnt : (pBk (hdIf l c r) (pB ba) [125]).length ≤ (pB ba).length + 2 := by
          unfold pBk
          by_cases e : pB ba = []
          · rw [if_pos e]; simp
          · rw [if_neg e]; simp
        have hcntb : ∀ h, (pBk h (pB bb) [125]).length ≤ (pB bb).length + 2 := fun h => by
          unfold pBk
          by_cases e : pB bb = []
          · rw [if_pos e]; simp
          · rw [if_neg e]; simp
        generalize hls : pBk (hdIf l c r) (pB ba) [125] = ls at hne hlast hcnt st hp2 k
        have hBa1 := hBa.1
        have hBb1 := hBb.1
        walk_at "go"
        refine i_slToB ?_
        walk_at "go"
        refine ⟨_, rfl, i_slLast (st.sqL 0 rfl) fun p3 np3 => ?_⟩
        have st := st.new (o := .lst ((lnV ls).take ((lnV ls).length - 1))) np3 trivial
        walk_at "go"
        have hl1 : atI (lnV ls) (-1) = some (.str (S (ls.getLastD []))) := by
          obtain ⟨i, x, rfl⟩ : ∃ i x, ls = i ++ [x] := ⟨ls.dropLast, ls.getLast hne, (List.dropLast_concat_getLast hne).symm⟩
          rw [lastD_snoc, show lnV (i ++ [x]) = lnV i ++ [.str (S x)] by simp [lnV]]
          exact atI_lastS
        refine i_ixL (xs := lnV ls) (st.sqL 0 rfl) hl1 ?_
        have eel : (cs " else").length = 5 := by decide +kernel
        refine i_addA (by rw [cs_S, eel]; omega) ?_
        rw [app_cs, cs_S, show cs " else" = 32 :: cs "else" by decide +kernel]
        walk_at "go"
        refine ⟨x5, bb, ls.getLastD [] ++ 32 :: cs "else", [125], by rw [z_rb], d5.keep_of (TK.same (Same.new np3)), h4, w4, hBb, by rw [List.length_append, List.length_cons, show (cs "else").length = 4 by decide +kernel]; omega, by decide, fun p4 H4 np4 e4 hp4 => ?_⟩
        have st := st.fresh np4 e4 hp4 trivial
        have hcb := hcntb (ls.getLastD [] ++ 32 :: cs "else")
        refine st_catB st (st.at 1 rfl) (st.at 2 rfl) (by rw [List.length_take, List.length_map, List.length_map]; omega) fun p5 H5 np5 e5 st => ?_
        refine k p5 _ (st.isNew 3 rfl) st.same ?_
        rw [st.at 3 rfl]
        unfold pElse
        rw [if_neg (fun q => hb (pB_nil.mp q))]
        rw [show lnV (ls.dropLast ++ pBk (ls.getLastD [] ++ 32 :: cs "else") (pB bb) [125]) = lnV ls.dropLast ++ lnV (pBk (ls.getLastD [] ++ 32 :: cs "else") (pB bb) [125]) by simp [lnV]]
        rw [show (lnV ls).take ((lnV ls).length - 1) = lnV ls.dropLast by rw [List.dropLast_eq_take]; simp [lnV]]
theorem print_all (A : All K mg) (D : Nat) : ∀ d, Cal P w K mg base (2 * D + 6 + 3 * d) "print_statement" (spPrS K D d) := by
  have x := ok_print_expression (P := P) (w := w) (base := base) A (D + 1)
  have t := ok_print_target (P := P) (w := w) (base := base) A (D + 1)
  intro d
  induction d with
  | zero =>
    refine Cal.mono (j := 1) ?_ (by omega)
    refine cal_of A.d_print_statement sc_print_statement (fun _ _ _ _ _ _ us hl => match us, hl with | [_], _ => rfl) (fun vs H Q E h => ?_) (fun f cdv A' outer s H vs Q E hr h => ?_)
    · obtain ⟨v, e, rfl, _⟩ := h
      rfl
    · obtain ⟨v, e, rfl, _, _, h, _⟩ := h
      exact h.elim
  | succ d ih =>
    have l := ok_print_lines A (by omega) ih
    have b := ok_print_block A (by omega) l
    exact (ok_print_statement (lv := 2 * D + 8 + 3 * d) A (by omega) (x.mono (by omega)) (t.mono (by omega)) (b.mono (by omega))).mono (by omega)
def spPrT2 (K : PySem.W.Frag) (D d : Nat) : Sp := fun vs H Q _ => ∃ (v : V) (b : List Sm), vs = [v] ∧ Dt K H v (blkD b) ∧ blL b ∧ (∀ s ∈ b, smW D d s) ∧ LnB 2000000 2000000 (pB b) ∧ (pText b).length ≤ 8000000 ∧ ∀ H', Same H H' → Q (.str (S (pText b))) H'
end
end Fb
namespace Fb
open PySem PySem.Spec PyProof.Rows L2
theorem k_bm {X : Cx} {K : PySem.W.Frag} {o e : Expr} {es : List Expr} {to : TE} {t : L2.TA} {name : Str} {apos cpos : Pos} {T id : String} {r : V → List V → Hp → VK → Prop} (h : X.K = K) (pa : PlainAttrs T) (sl : Slot T name id) (ty : typeOf (.builtin id) = pure (.type "method_descriptor")) (hm : MtR X id r) (ho : PE X o to) (ha : PA X (e :: es) t)
    (hbase : attributeBase o name X.env (eval o X.env) = eval o X.env := by rfl)
    (hfew : ((backTo cpos (starEach (e :: es) X.env)).all (fun x => !x.1) && (backToKw cpos (keywordEach [] X.env)).all (fun x => x.1.isSome) && decide ((e :: es).length + ([] : List Keyword).length + (if ([] : List Keyword).isEmpty then 0 else 1) < 30)) = true := by rfl)
    (hline : (apos.endLine == cpos.line) = true := by rfl) (hs : starEach (e :: es) X.env = (false, eval e X.env) :: starEach es X.env := by rfl) (hplain : (backTo cpos (starEach es X.env)).any (·.1) = false := by rfl) :
    PE X (.Call (.Attribute o name apos) (e :: es) [] cpos) (tBM K T r to t) := h ▸ pe_bm pa sl ty hm ho ha hbase hfew hline hs hplain
end Fb
namespace Fb
open PySem PySem.Spec PyProof.Rows L2 PySem.HandSPX SX
theorem k_joinQ {X : Cx} {K : PySem.W.Frag} (h : X.K = K) : MtR X "str.join" (fun x xs H Q => ∃ a p, ∃ ys : List Str, x = .str a ∧ xs = [.ref p] ∧ (SqL K H p (ys.map V.str) ∨ SqT K H p (ys.map V.str)) ∧
    (ys.map (·.length)).sum + ys.length * a.length ≤ 16777216 ∧ Q (.str (Txt.join a ys)) H) := h ▸ mt_join
theorem joinL_eq : ∀ ls : List (List Nat), TL.joinL [10] ls = joinL ls
  | [] => rfl
  | [l] => rfl
  | l :: m :: ls => by
    show l ++ ([10] ++ TL.joinL [10] (m :: ls)) = l ++ 10 :: joinL (m :: ls)
    rw [joinL_eq (m :: ls)]
    rfl
theorem joinL_sum : ∀ ls : List (List Nat), (ls.map List.length).sum + ls.length ≤ (joinL ls).length + 1
  | [] => by simp [joinL]
  | [l] => by simp [joinL]
  | l :: m :: ls => by
    have := joinL_sum (m :: ls)
    show (l.length + ((m :: ls).map List.length).sum) + ((m :: ls).length + 1) ≤ (l ++ 10 :: joinL (m :: ls)).length + 1
    rw [List.length_append, show (10 :: joinL (m :: ls)).length = (joinL (m :: ls)).length + 1 from rfl]
    omega
theorem i_joinB {K : PySem.W.Frag} {H : Hp} {D : Addr} {ls : List (List Nat)} {N : Str → List Str → Prop} (h : SqL K H D (lnV ls)) (hb : (joinL ls).length ≤ 16000000) (q : N (S [10]) (ls.map S)) :
    ∃ a p, ∃ ys : List Str, V.str "\n" = .str a ∧ [V.ref D] = [.ref p] ∧ (SqL K H p (ys.map V.str) ∨ SqT K H p (ys.map V.str)) ∧ (ys.map (·.length)).sum + ys.length * a.length ≤ 16777216 ∧ N a ys := by
  have e10 : ("\n" : Str) = S [10] := by decide +kernel
  have h1 := joinL_sum ls
  have h2 : ((ls.map S).map (·.length)).sum = (ls.map List.length).sum := by
    rw [List.map_map]
    exact congrArg List.sum (List.map_congr_left fun l _ => S_len l)
  refine ⟨_, D, ls.map S, rfl, rfl, .inl (by rw [List.map_map]; exact h), ?_, by rw [e10]; exact q⟩
  rw [h2, e10, S_len, List.length_map]
  simp only [List.length_cons, List.length_nil]
  omega
def spFmt (K : PySem.W.Frag) (CS : Addr) (Dq dq D d : Nat) : Sp := fun vs H Q E => ∃ l : List Nat, vs = [.str (S l)] ∧ l.length ≤ 15000000 ∧
  match parseT Dq dq l with
  | none => False
  | some (.ok b) => blL b ∧ (∀ s ∈ b, smW D d s) ∧ LnB 2000000 2000000 (pB b) ∧ (pText b).length ≤ 8000000 ∧ ∀ H', Same H H' → Q (.str (S (pText b))) H'
  | some (.error e) => ∀ dd H1, Same H H1 → H1 dd = none → E (.ref CS) (some dd) (upd H1 dd (sseD e.1 e.2))
section
variable {P : Program} {w : World} {K : PySem.W.Frag} {mg : Str → Option Value} {base : Heap}
theorem ok_print_script (A : All K mg) (D d : Nat) : Cal P w K mg base (2 * D + 8 + 3 * d) "print_script" (spPrT2 K D d) := by
  have c_print_lines := ok_print_lines (P := P) (w := w) (base := base) A (by omega) (print_all A D d)
  refine Cal.mono (j := 2 * D + 7 + 3 * d + 1) ?_ (by omega)
  refine cal_of A.d_print_script sc_print_script (fun _ _ _ _ _ _ us hl => match us, hl with | [_], _ => rfl) (fun vs H Q E h => ?_) (fun f cdv A' outer s H0 vs Q E hr h => ?_)
  · obtain ⟨v, b, rfl, _⟩ := h
    rfl
  · obtain ⟨v, b, rfl, hd, hL, hW, hB, hl, k⟩ := h
    refine ⟨_, (pss_one (ps_ret (k_bm (K := K) rfl PySem.F.plainAttrs_str PySem.F.slot_str_join PySem.F.type_str_join (k_joinQ (K := K) rfl) pe_str (pa_cons (pc c_print_lines hr (by omega) (pa_cons (pv 0) pa_nil)) pa_nil)))), ?_⟩
    walk_at "begin"
    refine i_tyS ?_
    walk_at "go"
    refine ⟨v, b, rfl, hd, hL, hW, hB, fun p H1 np e1 hp => ?_⟩
    walk_at "go"
    refine i_joinB (SqL.of hp) (by unfold pText at hl; omega) ?_
    rw [join_S, joinL_eq]
    exact k H1 e1
theorem ok_format_script (A : All K mg) {CS : Addr} {Dq dq D d lv : Nat} (c_parse_script : Cal P w K mg base lv "parse_script" (spParse K CS Dq dq)) (c_print_script : Cal P w K mg base lv "print_script" (spPrT2 K D d)) : Cal P w K mg base (lv + 1) "format_script" (spFmt K CS Dq dq D d) := by
  refine cal_ofX A.d_format_script sc_format_script (fun _ _ _ _ _ _ us hl => match us, hl with | [_], _ => rfl) (fun vs H Q E h => ?_) (fun f cdv A' outer s H0 vs Q E hr h => ?_)
  · obtain ⟨l, rfl, _⟩ := h
    rfl
  · obtain ⟨l, rfl, hl, k⟩ := h
    refine ⟨_, (pss_one (ps_ret (pc c_print_script hr (by omega) (pa_cons (pcX c_parse_script hr (by omega) (takes_of rfl rfl rfl rfl) (pa_cons (pv 0) pa_nil)) pa_nil)))), ?_⟩
    walk_at "begin"
    refine ⟨l, rfl, hl, ?_⟩
    cases e : parseT Dq dq l with
    | none => rw [e] at k; exact k
    | some r =>
      rw [e] at k
      cases r with
      | error x => exact k
      | ok b =>
        obtain ⟨hL, hW, hB, hz, k⟩ := k
        intro v H1 e1 dv
        walk_at "go"
        exact ⟨v, b, rfl, dv, hL, hW, hB, hz, fun H2 e2 => k H2 fun a o h => e2 a o (e1 a o h)⟩
end
end Fb
namespace Fb
open PySem PySem.Spec PyProof.Rows L2
section
end
end Fb
namespace Fb
open PySem PySem.Spec PyProof.Rows L2
def iV (ns : List Int) : List V := ns.map V.int
theorem iV_len (ns : List Int) : (iV ns).length = ns.length := by simp [iV]
section
end
end Fb
namespace Fb
open PySem PySem.Spec PyProof.Rows L2
def rngL (h c : Addr) (m i : Int) (cells : List Int) (L : List (Addr × HO)) : List (Addr × HO) := (h, .lst [.int m, .ref c, .int i]) :: (c, .lst (iV cells)) :: L
def Rg (H : Hp) (h c : Addr) : Prop := ∃ m i cells, H h = some (.lst [.int m, .ref c, .int i]) ∧ H c = some (.lst (iV cells)) ∧ cells.length ≤ 63
theorem Rg.ne {H : Hp} {h c : Addr} (r : Rg H h c) : h ≠ c := fun e => by
  obtain ⟨m, i, cells, h1, h2, _⟩ := r
  subst e
  rw [h1] at h2
  have := Option.some.inj h2
  have := HO.lst.inj this
  unfold iV at this
  cases cells with
  | nil => cases this
  | cons a r =>
    cases r with
    | nil => simp at this
    | cons b r => simp at this
theorem Rg.start {H : Hp} {h c : Addr} (r : Rg H h c) : ∃ m i cells, cells.length ≤ 63 ∧ Stt [h, c] H (rngL h c m i cells []) [] H := by
  have ne := r.ne
  obtain ⟨m, i, cells, h1, h2, h3⟩ := r
  refine ⟨m, i, cells, h3, Stt.start [h, c] _ H (fun p hp => ?_) rfl (by simp [ne])⟩
  rcases List.mem_cons.mp hp with e | hp
  · rw [e]; exact ⟨h1, trivial⟩
  · rw [List.mem_singleton.mp hp]; exact ⟨h2, trivial⟩
section
variable {B : List Addr} {H0 H H' : Hp} {L : List (Addr × HO)} {P : List (Hp → Prop)} {h c : Addr} {m i : Int} {cells : List Int}
theorem Stt.exB (s : Stt B H0 L P H) : ExB B H0 H := s.ex
end
section
end
end Fb
namespace Fb
open PySem PySem.Spec PyProof.Rows L2
def Scr (K : PySem.W.Frag) (H : Hp) (h a : Addr) : Prop := ∃ ns : List Int, ns.length ≤ 63 ∧ ((∀ H', SqL K H' a (iV ns)) ∨ (a ≠ h ∧ Rd H a (.lst (iV ns))))
def Dr (K : PySem.W.Frag) (H : Hp) (h a : Addr) : Prop := (∃ (i : Nat) (m r : Int), H h = some (.lst [.ref a, .int (i : Nat), .int m, .int r])) ∧ Scr K H h a
def dL (h a : Addr) (i : Nat) (m r : Int) (L : List (Addr × HO)) : List (Addr × HO) := (h, .lst [.ref a, .int (i : Nat), .int m, .int r]) :: L
def SrcOk (K : PySem.W.Frag) (B : List Addr) (H0 : Hp) (h a : Addr) : Prop := ∀ H, (∀ b o, b ∉ B → H0 b = some o → H b = some o) → Scr K H h a
section
variable {K : PySem.W.Frag} {B : List Addr} {H0 H H' : Hp} {L : List (Addr × HO)} {P : List (Hp → Prop)} {h a : Addr} {i : Nat} {m r : Int}
theorem Scr.sq (s : Scr K H h a) : ∃ ns : List Int, ns.length ≤ 63 ∧ SqL K H a (iV ns) := by
  obtain ⟨ns, hl, hs | ⟨_, hs⟩⟩ := s
  · exact ⟨ns, hl, hs H⟩
  · exact ⟨ns, hl, .inl hs⟩
theorem Scr.ex (s : Scr K H h a) (e : ∀ b o, b ∉ [h] → H b = some o → H' b = some o) : Scr K H' h a := by
  obtain ⟨ns, hl, hs | ⟨hn, hs⟩⟩ := s
  · exact ⟨ns, hl, .inl hs⟩
  · refine ⟨ns, hl, .inr ⟨hn, ?_⟩⟩
    rcases hs with hs | ⟨o, hs⟩
    · exact .inl (e _ _ (by simp [hn]) hs)
    · exact .inr ⟨o, e _ _ (by simp [hn]) hs⟩
theorem Dr.src (d : Dr K H h a) : SrcOk K [h] H h a := fun _ e => d.2.ex e
theorem Scr.first {ns : List Int} (hs : SqL K H0 a (iV ns)) (hl : ns.length ≤ 63) (hn : H0 h = none) : SrcOk K [] H0 h a := fun H e => by
  rcases hs with hs | hs
  · refine ⟨ns, hl, .inr ⟨?_, ?_⟩⟩
    · rintro rfl
      rcases hs with hs | ⟨o, hs⟩
      · rw [hn] at hs; cases hs
      · rw [hn] at hs; cases hs
    · rcases hs with hs | ⟨o, hs⟩
      · exact .inl (e _ _ (by simp) hs)
      · exact .inr ⟨o, e _ _ (by simp) hs⟩
  · exact ⟨ns, hl, .inl fun _ => .inr hs⟩
theorem Stt.dr (s : Stt B H0 (dL h a i m r L) P H) (hS : SrcOk K B H0 h a) : Dr K H h a := ⟨⟨i, m, r, s.at 0 rfl⟩, hS H s.ex⟩
theorem Stt.drn (s : Stt B H0 (dL h a i m r L) P H) (e : ExB [h] H H') (d : Dr K H' h a) : ∃ i m r, Stt B H0 (dL h a i m r L) P H' := by
  obtain ⟨⟨i', m', r', h1⟩, _⟩ := d
  refine ⟨i', m', r', Stt.upds (L1 := [(h, .lst [.ref a, .int (i : Nat), .int m, .int r])]) (L1' := [(h, .lst [.ref a, .int (i' : Nat), .int m', .int r'])]) s rfl e (fun p hp => ?_) (fun p hp => ?_)⟩
  · rw [List.mem_singleton.mp hp]; exact h1
  · rw [List.mem_singleton.mp hp]; trivial
theorem Dr.start (d : Dr K H h a) : ∃ i m r, Stt [h] H (dL h a i m r []) [] H ∧ SrcOk K [h] H h a := by
  obtain ⟨⟨i, m, r, h1⟩, s⟩ := id d
  exact ⟨i, m, r, Stt.start [h] _ H (fun p hp => by rw [List.mem_singleton.mp hp]; exact ⟨h1, trivial⟩) rfl (by simp), d.src⟩
end
def spStart (K : PySem.W.Frag) : Sp := fun vs H Q _ => ∃ (a : Addr) (ns : List Int), vs = [.ref a] ∧ SqL K H a (iV ns) ∧ ∀ h m H', H h = none → Same H H' → H' h = some (.lst [.ref a, .int ((0 : Nat) : Int), .int m, .int 0]) → Q (.ref h) H'
def spDrawn (K : PySem.W.Frag) : Sp := fun vs H Q _ => ∃ (h a : Addr) (n : Int), vs = [.ref h, .int n] ∧ Dr K H h a ∧ 0 < n ∧ n < 2 ^ 64 ∧ ∀ r H', 0 ≤ r → r < n → ExB [h] H H' → Dr K H' h a → Q (.int r) H'
theorem st_drawn {K : PySem.W.Frag} {B : List Addr} {H0 H : Hp} {L : List (Addr × HO)} {P : List (Hp → Prop)} {h a : Addr} {i : Nat} {m r : Int} {n : Int} {Q : VK} {E : XK} (s : Stt B H0 (dL h a i m r L) P H) (hS : SrcOk K B H0 h a) (h0 : 0 < n) (h1 : n < 2 ^ 64)
    (k : ∀ x i m r H', 0 ≤ x → x < n → Stt B H0 (dL h a i m r L) P H' → Q (.int x) H') : spDrawn K [.ref h, .int n] H Q E :=
  ⟨h, a, n, rfl, s.dr hS, h0, h1, fun x H' r0 r1 e d => by
    obtain ⟨i', m', r', st⟩ := s.drn e d
    exact k x i' m' r' H' r0 r1 st⟩
section
variable {P : Program} {w : World} {K : PySem.W.Frag} {mg : Str → Option Value} {base : Heap}
theorem ok_law_start (A : All K mg) : Cal P w K mg base 1 "_law_start" (spStart K) := by
  refine cal_of A.d_law_start sc_law_start (fun _ _ _ _ _ _ us hl => match us, hl with | [_], _ => rfl) (fun vs H Q E h => ?_) (fun f cdv A' outer s H0 vs Q E hr h => ?_)
  · obtain ⟨a, ns, rfl, _⟩ := h
    rfl
  · obtain ⟨a, ns, rfl, hs, k⟩ := h
    refine ⟨_, (pss_cons (ps_set (i := 1) sc_law_start.nd rfl (Or.inl rfl) pe_int)
 (pss_cons (ps_for PassesOwn.never rfl (k_pl (K := K) rfl (pv 0)) (pg_name (i := 2) sc_law_start.nd rfl (Or.inl rfl))
 (pss_one (ps_set (i := 1) sc_law_start.nd rfl (Or.inl rfl) (pe_op op_mod (pe_op op_add (pe_op op_add (pe_op op_mul (pv 1) pe_int) (pv 2)) pe_int) pe_int))))
 (pss_one (ps_ret (pe_lst (pa_cons (pv 0) (pa_cons pe_int (pa_cons (pv 1) (pa_cons pe_int pa_nil))))))))), ?_⟩
    have st : Stt [] H0 [] [] H0 := Stt.init H0
    walk_at "begin"
    refine ⟨a, rfl, ⟨_, hs⟩, ForIt.go (walk_list (xs := iV ns)) (fun i σ H => ∃ x s3, σ = [some (.ref a), some (.int x), s3] ∧ Stt [] H0 [] [] H) ⟨_, _, rfl, st⟩ (fun i σ H _ p => ?_) ?_ ?_⟩
    · obtain ⟨_, _, _, st⟩ := p
      exact st.same.seq hs
    · rintro i x σ H H' hi ⟨x0, s3, rfl, st⟩ ⟨rfl, hx⟩
      obtain ⟨y, rfl⟩ : ∃ y, V.int y = x := by
        unfold iV at hx
        rw [List.getElem?_map] at hx
        cases e : ns[i]? with
        | none => rw [e] at hx; cases hx
        | some y => rw [e] at hx; exact ⟨y, Option.some.inj hx⟩
      walk_at "go"
      refine i_I (.inr ⟨by decide, by decide⟩) ?_
      walk_at "go"
      refine i_I (by decide) ?_
      walk_at "go"
      exact ⟨_, _, rfl, st⟩
    · rintro σ H ⟨x0, s3, rfl, st⟩
      walk_at "go"
      refine st_newL st (by simp) fun h nh st' => ?_
      exact k h _ _ (st'.isNew 0 rfl) st'.same (st'.at 0 rfl)
theorem ok_law_drawn (A : All K mg) : Cal P w K mg base 1 "_law_drawn" (spDrawn K) := by
  refine cal_of A.d_law_drawn sc_law_drawn (fun _ _ _ _ _ _ us hl => match us, hl with | [_, _], _ => rfl) (fun vs H Q E h => ?_) (fun f cdv A' outer s H0 vs Q E hr h => ?_)
  · obtain ⟨h, a, n, rfl, _⟩ := h
    rfl
  · obtain ⟨h, a, n, rfl, d, l0, l1, k⟩ := h
    obtain ⟨i, m, r, st, hS⟩ := d.start
    have hln : n.natAbs < 2 ^ 64 := by omega
    refine ⟨_, (pss_cons (ps_if (pt_cmpR op_gt (pe_ix (k_ixL (K := K) rfl) (pv 0) pe_int (fun _ _ => rfl)) pe_int (nomark _)) (pss_cons (ps_set (i := 2) sc_law_drawn.nd rfl (Or.inl rfl) (pe_op op_mod (pe_callTy (T := "int") f_int (by rfl) A.b_int (by decide +kernel) (pa_cons (pe_ix (k_ixL (K := K) rfl) (pv 0) pe_int (fun _ _ => rfl)) pa_nil)) (pv 1)))
 (pss_cons (ps_asg (pe_op op_fdivW (pe_ix (k_ixL (K := K) rfl) (pv 0) pe_int (fun _ _ => rfl)) (pv 1)) (pg_sub (pv 0) pe_int set_list))
 (pss_one (ps_ret (pv 2))))) pss_nil)
 (pss_cons (ps_asg (pe_op op_add (pe_ix (k_ixL (K := K) rfl) (pv 0) pe_int (fun _ _ => rfl)) pe_int) (pg_sub (pv 0) pe_int set_list))
 (pss_cons (ps_if (pt_cmpR op_le (pe_ix (k_ixL (K := K) rfl) (pv 0) pe_int (fun _ _ => rfl)) (pe_callB (id := "len") (k_len (K := K) rfl) (by rfl) A.b_len (by decide +kernel) (pa_cons (pe_ix (k_ixL (K := K) rfl) (pv 0) pe_int (fun _ _ => rfl)) pa_nil)) (nomark _)) (pss_cons (ps_set (i := 3) sc_law_drawn.nd rfl (Or.inl rfl) (pe_ix (k_ixL (K := K) rfl) (pe_ix (k_ixL (K := K) rfl) (pv 0) pe_int (fun _ _ => rfl)) (pe_op op_sub (pe_ix (k_ixL (K := K) rfl) (pv 0) pe_int (fun _ _ => rfl)) pe_int) (fun _ _ => rfl)))
 (pss_cons (ps_asg (pe_ifExp (pt_cmpR op_ge (pv 3) (pe_op op_pow pe_int pe_int) (nomark _)) (pe_op op_fdivW (pv 3) (pv 1)) pe_int) (pg_sub (pv 0) pe_int set_list))
 (pss_one (ps_ret (pe_op op_mod (pe_callTy (T := "int") f_int (by rfl) A.b_int (by decide +kernel) (pa_cons (pv 3) pa_nil)) (pv 1)))))) pss_nil)
 (pss_cons (ps_asg (pe_op op_mod (pe_op op_add (pe_op op_mul (pe_ix (k_ixL (K := K) rfl) (pv 0) pe_int (fun _ _ => rfl)) pe_int) pe_int) pe_int) (pg_sub (pv 0) pe_int set_list))
 (pss_one (ps_ret (pe_op op_mod (pe_op op_fdiv (pe_ix (k_ixL (K := K) rfl) (pv 0) pe_int (fun _ _ => rfl)) pe_int) (pv 1)))))))), ?_⟩
    walk_at "begin"
    refine i_ixL (xs := [.ref a, .int (i : Nat), .int m, .int r]) (by walk_at "sq") (v := .int r) rfl ?_
    walk_at "go"
    refine ite2 (fun h1 => ?_) (fun h1 => ?_)
    · walk_at "go"
      refine i_ixL (xs := [.ref a, .int (i : Nat), .int m, .int r]) (by walk_at "sq") (v := .int r) rfl ?_
      walk_at "go"
      refine i_I l0 ?_
      walk_at "go"
      refine i_ixL (xs := [.ref a, .int (i : Nat), .int m, .int r]) (by walk_at "sq") (v := .int r) rfl ?_
      walk_at "go"
      refine i_I (wide_div l0 hln (by decide) (by decide)) ?_
      walk_at "go"
      refine st_setL st 0 rfl (j := 3) rfl fun H st => ?_
      walk_at "go"
      have st : Stt [h] H0 (dL h a i m (r / n) []) [] H := st
      exact k _ _ (Int.emod_nonneg _ (by omega)) (Int.emod_lt_of_pos _ l0) st.exB (st.dr hS)
    · walk_at "go"
      refine i_ixL (xs := [.ref a, .int (i : Nat), .int m, .int r]) (by walk_at "sq") (v := .int (i : Nat)) rfl ?_
      walk_at "go"
      refine st_setL st 0 rfl (j := 1) rfl fun H st => ?_
      rw [show ((i : Nat) : Int) + 1 = ((i + 1 : Nat) : Int) from rfl] at st
      have st : Stt [h] H0 (dL h a (i + 1) m r []) [] H := st
      walk_at "go"
      refine i_ixL (xs := [.ref a, .int (i + 1 : Nat), .int m, .int r]) (by walk_at "sq") (v := .int (i + 1 : Nat)) rfl ?_
      walk_at "go"
      refine i_ixL (xs := [.ref a, .int (i + 1 : Nat), .int m, .int r]) (by walk_at "sq") (v := .ref a) rfl ?_
      walk_at "go"
      obtain ⟨ns, hl, hs⟩ := (hS H st.ex).sq
      refine i_lenL hs ?_
      rw [iV_len]
      walk_at "go"
      refine ite2 (fun h2 => ?_) (fun h2 => ?_)
      · have h2 : ((i + 1 : Nat) : Int) ≤ (ns.length : Int) := of_decide_eq_true h2
        have hil : i < ns.length := by omega
        walk_at "go"
        refine i_ixL (xs := [.ref a, .int (i + 1 : Nat), .int m, .int r]) (by walk_at "sq") (v := .ref a) rfl ?_
        walk_at "go"
        refine i_ixL (xs := [.ref a, .int (i + 1 : Nat), .int m, .int r]) (by walk_at "sq") (v := .int (i + 1 : Nat)) rfl ?_
        walk_at "go"
        rw [show ((i + 1 : Nat) : Int) - 1 = ((i : Nat) : Int) by omega]
        refine i_ixL hs (v := .int ns[i]) (atI_nat (by unfold iV; rw [List.getElem?_map, List.getElem?_eq_getElem hil]; rfl)) ?_
        generalize ns[i] = cell
        walk_at "go"
        refine i_I ⟨by decide, by decide, by decide⟩ ?_
        walk_at "go"
        rw [show (10 : Int) ^ (18 : Int).toNat = 1000000000000000000 by decide]
        have fin : ∀ (x : Int) (H : Hp), Stt [h] H0 (dL h a (i + 1) m x []) [] H → Q (.int (cell % n)) H := fun x H st => k _ _ (Int.emod_nonneg _ (by omega)) (Int.emod_lt_of_pos _ l0) st.exB (st.dr hS)
        refine ite2 (fun h3 => ?_) (fun h3 => ?_)
        · walk_at "go"
          refine i_I (wide_div l0 hln (by decide) (by decide)) ?_
          walk_at "go"
          refine st_setL st 0 rfl (j := 3) rfl fun H st => ?_
          walk_at "go"
          refine i_I l0 ?_
          exact fin (cell / n) H st
        · walk_at "go"
          refine st_setL st 0 rfl (j := 3) rfl fun H st => ?_
          walk_at "go"
          refine i_I l0 ?_
          exact fin 0 H st
      · walk_at "go"
        refine i_ixL (xs := [.ref a, .int (i + 1 : Nat), .int m, .int r]) (by walk_at "sq") (v := .int m) rfl ?_
        walk_at "go"
        refine i_I (.inr ⟨by decide, by decide⟩) ?_
        walk_at "go"
        refine i_I (by decide) ?_
        walk_at "go"
        refine st_setL st 0 rfl (j := 2) rfl fun H st => ?_
        generalize (m * 48271 + 11) % 2147483647 = m1 at st ⊢
        have st : Stt [h] H0 (dL h a (i + 1) m1 r []) [] H := st
        walk_at "go"
        refine i_ixL (xs := [.ref a, .int (i + 1 : Nat), .int m1, .int r]) (by walk_at "sq") (v := .int m1) rfl ?_
        walk_at "go"
        refine i_I ⟨by decide, by decide⟩ ?_
        walk_at "go"
        refine i_I l0 ?_
        exact k _ _ (Int.emod_nonneg _ (by omega)) (Int.emod_lt_of_pos _ l0) st.exB (st.dr hS)
end
end Fb
namespace Fb
open PySem PySem.Spec PyProof.Rows L2 PySem.HandSPX SX
def spVal (K : PySem.W.Frag) (D : Nat) : Sp := fun vs H Q _ => ∃ (h a : Addr) (d : Nat), vs = [.ref h, .int (d : Nat)] ∧ Dr K H h a ∧ d < D ∧ ∀ v e H', Dt K H' v (exD e) → exN e → e.dp ≤ d + 1 → ExB [h] H H' → Dr K H' h a → Q v H'
section
variable {P : Program} {w : World} {K : PySem.W.Frag} {mg : Str → Option Value} {base : Heap}
theorem Stt.drops {B : List Addr} {H0 H : Hp} {L N : List (Addr × HO)} {P : List (Hp → Prop)} (s : Stt B H0 (L ++ N) P H) : Stt B H0 L P H :=
  ⟨s.ex, fun p h => s.own p (List.mem_append_left _ h), fun p h => s.mu p (List.mem_append_left _ h), fun p h => s.fr p (List.mem_append_left _ h), by
    have := s.nd
    rw [List.map_append] at this
    exact (List.nodup_append.mp this).1, s.ps, s.pp, s.tk⟩
theorem st_pickS {B : List Addr} {H0 H : Hp} {L : List (Addr × HO)} {h a : Addr} {i : Nat} {m r : Int} {P : List (Hp → Prop)} {Q : VK} {σ : L2.St} {zs : List Str} {tr : L2.TA} (hS : SrcOk K B H0 h a) (st : Stt B H0 (dL h a i m r L) P H) (hσ : σ[0]? = some (some (.ref h))) (hz : zs ≠ []) (hl : zs.length ≤ 1000)
    (htr : ∀ N : List V → Hp → Prop, N (zs.map V.str) H → tr σ H N) (k : ∀ z ∈ zs, ∀ i m r H', Stt B H0 (dL h a i m r L) P H' → Q (.str z) H') :
    tOp (rIxL K) (tLst tr) (tCall (spDrawn K) [] E0 (tCons (tVar 0) (tCons (tC (.int (zs.length : Nat))) tNil))) σ H Q := by
  refine i_op (i_lst (htr _ ?_))
  refine st_newL st (by rw [List.length_map]; omega) fun l nl st => ?_
  refine i_call ?_
  refine i_cons (i_var hσ ?_)
  walk_at "go"
  have hp : 0 < zs.length := List.length_pos_iff.mpr hz
  refine st_drawn (L := L ++ [(l, .lst (zs.map V.str))]) st hS (by omega) (by omega) fun x i m r H x0 x1 st => ?_
  have hx : x.toNat < zs.length := by omega
  refine i_ixL (xs := zs.map V.str) (v := .str zs[x.toNat]) (SqL.of (st.own (l, .lst (zs.map V.str)) (by simp [dL]))) (atI_int x0 (by rw [List.getElem?_map, List.getElem?_eq_getElem hx]; rfl)) ?_
  exact k _ (List.getElem_mem hx) i m r H (Stt.drops (N := [(l, .lst (zs.map V.str))]) st)
set_option maxHeartbeats 0 in
theorem ok_law_value1 (A : All K mg) {D lv : Nat} (hlv : 1 ≤ lv) (c_law_drawn : Cal P w K mg base 1 "_law_drawn" (spDrawn K)) (c_law_value : Cal P w K mg base lv "_law_value" (spVal K D)) : Cal P w K mg base (lv + 1) "_law_value" (spVal K (D + 1)) := by
  refine cal_of A.d_law_value sc_law_value (fun _ _ _ _ _ _ us hl => match us, hl with | [_, _], _ => rfl) (fun vs H Q E h => ?_) (fun f cdv A' outer s H0 vs Q E hr h => ?_)
  · obtain ⟨h, a, d, rfl, _⟩ := h
    rfl
  · obtain ⟨h, a, d, rfl, dr, hD, k⟩ := h
    obtain ⟨i, m, r, st, hS⟩ := dr.start
    refine ⟨_, (pss_cons (ps_set (i := 2) sc_law_value.nd rfl (Or.inl rfl) (pc c_law_drawn hr (by omega) (pa_cons (pv 0) (pa_cons (pe_ifExp (pt_cmpR op_gt (pv 1) pe_int (nomark _)) pe_int pe_int) pa_nil))))
 (pss_cons (ps_if (pt_cmpR op_lt (pv 2) pe_int (nomark _)) (pss_cons (ps_set (i := 3) sc_law_value.nd rfl (Or.inl rfl) (pe_ix (k_ixL (K := K) rfl) (pe_lst (pa_cons (pc c_law_drawn hr (by omega) (pa_cons (pv 0) (pa_cons pe_int pa_nil))) (pa_cons (pc c_law_drawn hr (by omega) (pa_cons (pv 0) (pa_cons pe_int pa_nil))) pa_nil))) (pe_op op_mod (pe_callTy (T := "int") f_int (by rfl) A.b_int (by decide +kernel) (pa_cons (pv 2) pa_nil)) pe_int) (fun _ _ => rfl)))
 (pss_one (ps_ret (pe_tup (pa_cons pe_str (pa_cons (pe_ifExp (PW.pt (pw_and (pt_cmpR op_eq (pv 2) pe_int (nomark _)) (pw_and1 (pt_cmpR op_eq (pe_op op_mod (pe_callTy (T := "int") f_int (by rfl) A.b_int (by decide +kernel) (pa_cons (pv 3) pa_nil)) pe_int) pe_int (nomark _))))) (pe_op op_sub (pe_op op_sub (pe_op op_pow pe_int pe_int) pe_int) (pv 3)) (pv 3)) pa_nil)))))) pss_nil)
 (pss_cons (ps_if (pt_cmpR op_lt (pv 2) pe_int (nomark _)) (pss_one (ps_ret (pe_tup (pa_cons pe_str (pa_cons (pe_ix (k_ixL (K := K) rfl) (pe_lst (pa_cons pe_str (pa_cons pe_str (pa_cons pe_str pa_nil)))) (pc c_law_drawn hr (by omega) (pa_cons (pv 0) (pa_cons pe_int pa_nil))) (fun _ _ => rfl)) pa_nil))))) pss_nil)
 (pss_cons (ps_if (pt_cmpR op_eq (pv 2) pe_int (nomark _)) (pss_one (ps_ret (pe_tup (pa_cons pe_str pa_nil)))) pss_nil)
 (pss_cons (ps_if (pt_cmpR op_eq (pv 2) pe_int (nomark _)) (pss_one (ps_ret (pe_tup (pa_cons pe_str (pa_cons (pe_ix (k_ixL (K := K) rfl) (pe_lst (pa_cons pe_str (pa_cons pe_str (pa_cons pe_str (pa_cons pe_str pa_nil))))) (pc c_law_drawn hr (by omega) (pa_cons (pv 0) (pa_cons pe_int pa_nil))) (fun _ _ => rfl)) pa_nil))))) pss_nil)
 (pss_cons (ps_if (pt_cmpR op_eq (pv 2) pe_int (nomark _)) (pss_one (ps_ret (pe_tup (pa_cons pe_str (pa_cons (pe_tup (pa_cons pe_str (pa_cons (pc c_law_drawn hr (by omega) (pa_cons (pv 0) (pa_cons pe_int pa_nil))) pa_nil))) pa_nil))))) pss_nil)
 (pss_cons (ps_if (pt_cmpR op_eq (pv 2) pe_int (nomark _)) (pss_one (ps_ret (pe_tup (pa_cons pe_str (pa_cons (pc c_law_value hr (by omega) (pa_cons (pv 0) (pa_cons (pe_op op_sub (pv 1) pe_int) pa_nil))) pa_nil))))) pss_nil)
 (pss_cons (ps_if (pt_cmpR op_lt (pv 2) pe_int (nomark _)) (pss_one (ps_ret (pe_tup (pa_cons pe_str (pa_cons (pc c_law_value hr (by omega) (pa_cons (pv 0) (pa_cons (pe_op op_sub (pv 1) pe_int) pa_nil))) pa_nil))))) pss_nil)
 (pss_cons (ps_set (i := 4) sc_law_value.nd rfl (Or.inl rfl) (pe_ix (k_ixL (K := K) rfl) (pe_lst (pa_cons pe_str (pa_cons pe_str (pa_cons pe_str (pa_cons pe_str (pa_cons pe_str pa_nil)))))) (pc c_law_drawn hr (by omega) (pa_cons (pv 0) (pa_cons pe_int pa_nil))) (fun _ _ => rfl)))
 (pss_one (ps_ret (pe_tup (pa_cons pe_str (pa_cons (pv 4) (pa_cons (pc c_law_value hr (by omega) (pa_cons (pv 0) (pa_cons (pe_op op_sub (pv 1) pe_int) pa_nil))) (pa_cons (pc c_law_value hr (by omega) (pa_cons (pv 0) (pa_cons (pe_op op_sub (pv 1) pe_int) pa_nil))) pa_nil)))))))))))))))), ?_⟩
    have fin : ∀ {i : Nat} {m r : Int} {P : List (Hp → Prop)} {H : Hp} {xs : List V} {ds : List PyData} {e : Ex}, Stt [h] H0 (dL h a i m r []) P H → DtAll K H xs ds → exD e = .tuple ds → exN e → e.dp ≤ d + 1 → xs.length ≤ 10 → xs.length ≤ sizeLine ∧ ∀ p, H p = none → Q (.ref p) (upd H p (.tup xs)) := by
      intro i m r P H xs ds e st hxs he hN hd hl
      refine st_newT K st (by omega) fun p np st => ?_
      exact k _ e _ (by rw [he]; exact dt_tup hxs np) hN hd st.exB (st.dr hS)
    have num : ∀ {n : Int}, 0 ≤ n → n < 10 ^ 18 → ∃ q : Nat, n = (q : Nat) ∧ q < 10 ^ 18 := fun {n} h0 h1 => ⟨n.toNat, by omega, by omega⟩
    (try (dsimp only [L2.cxOf, L2.Cx.nox, L2.Cx.wish, L2.Cx.blk]))
    refine i_join (fun σ' H' => ∃ (x : Int) (i : Nat) (m r : Int), σ' = [some (.ref h), some (.int (d : Nat)), some (.int x), none, none] ∧ 0 ≤ x ∧ x < 16 ∧ (d = 0 → x < 8) ∧ Stt [h] H0 (dL h a i m r []) [] H') (fun N J => ?_) ?_
    · walk_at "go"
      by_cases h0 : 0 < d
      · refine ifT (decide_eq_true (by omega)) ?_
        walk_at "go"
        refine st_drawn st hS (by decide) (by decide) fun x i m r H x0 x1 st => ?_
        walk_at "go"
        exact J _ _ ⟨x, i, m, r, rfl, x0, x1, fun e => by omega, st⟩
      · refine ifF (decide_eq_false (by omega)) ?_
        walk_at "go"
        refine st_drawn st hS (by decide) (by decide) fun x i m r H x0 x1 st => ?_
        walk_at "go"
        exact J _ _ ⟨x, i, m, r, rfl, x0, by omega, fun e => x1, st⟩
    clear st
    rintro σ H ⟨x, i, m, r, rfl, x0, x1, x2, st⟩
    walk_at "go"
    by_cases h3 : x < 3
    · refine ifT (decide_eq_true h3) ?_
      walk_at "go"
      refine st_drawn st hS (by decide) (by decide) fun y1 i m r H y10 y11 st => ?_
      walk_at "go"
      refine st_drawn st hS (by decide) (by decide) fun y2 i m r H y20 y21 st => ?_
      walk_at "go"
      refine st_newL st (by simp) fun l nl st => ?_
      walk_at "go"
      refine i_I (by decide) ?_
      walk_at "go"
      obtain ⟨v, hv, hm⟩ := atI_mem (xs := [V.int y1, V.int y2]) (i := x % 2) (by omega) (by simp; omega)
      refine i_ixL (by walk_at "sq") hv ?_
      have st := st.picks [0] (by decide) (L' := dL h a i m r []) rfl
      generalize upd H l _ = H at st ⊢
      obtain ⟨y, rfl, y0, y60⟩ : ∃ y : Int, v = .int y ∧ 0 ≤ y ∧ y < 60 := by
        simp only [List.mem_cons, List.not_mem_nil, or_false] at hm
        rcases hm with rfl | rfl
        · exact ⟨y1, rfl, y10, by omega⟩
        · exact ⟨y2, rfl, y20, y21⟩
      walk_at "go"
      have small : ∃ q : Nat, y = (q : Nat) ∧ q < 10 ^ 18 := ⟨y.toNat, by omega, by omega⟩
      have low : ([V.str "number", V.int y] : List V).length ≤ sizeLine ∧ ∀ p, H p = none → Q (.ref p) (upd H p (.tup [V.str "number", V.int y])) := by
        obtain ⟨q, rfl, hq⟩ := small
        exact fin (e := .num q) st (.cons (.str _) (.cons (.int _) .nil)) rfl hq (Nat.zero_le _) (by simp)
      by_cases hx2 : x = 2
      · refine ifT (decide_eq_true hx2) ?_
        walk_at "go"
        refine i_I (by decide) ?_
        walk_at "go"
        by_cases hy2 : y % 2 = 0
        · refine ifT (decide_eq_true hy2) ?_
          walk_at "go"
          refine i_I ⟨by decide, by decide, by decide⟩ ?_
          walk_at "go"
          rw [show (10 : Int) ^ (18 : Int).toNat = 1000000000000000000 by decide]
          obtain ⟨q, hq1, hq2⟩ : ∃ q : Nat, (1000000000000000000 : Int) - 1 - y = (q : Nat) ∧ q < 10 ^ 18 := ⟨((1000000000000000000 : Int) - 1 - y).toNat, by omega, by omega⟩
          rw [hq1]
          exact fin (e := .num q) st (.cons (.str _) (.cons (.int _) .nil)) rfl hq2 (Nat.zero_le _) (by simp)
        · refine ifF (decide_eq_false hy2) ?_
          walk_at "go"
          exact low
      · refine ifF (decide_eq_false hx2) ?_
        refine ifF rfl ?_
        walk_at "go"
        exact low
    refine ifF (decide_eq_false h3) ?_
    walk_at "go"
    by_cases h5 : x < 5
    · refine ifT (decide_eq_true h5) ?_
      refine i_ret (i_tup (i_cons (i_c (i_cons ?_))))
      refine st_pickS (zs := ["x", "y", "count"]) hS st rfl (by decide) (by decide) (fun N q => by walk_at "go"; exact q) fun z hz i m r H st => ?_
      walk_at "go"
      exact fin (e := .name z) st (.cons (.str _) (.cons (.str _) .nil)) rfl hz (Nat.zero_le _) (by simp)
    refine ifF (decide_eq_false h5) ?_
    walk_at "go"
    by_cases h6 : x = 5
    · refine ifT (decide_eq_true h6) ?_
      walk_at "go"
      exact fin (e := .next) st (.cons (.str _) .nil) rfl trivial (Nat.zero_le _) (by simp)
    refine ifF (decide_eq_false h6) ?_
    walk_at "go"
    by_cases h7 : x = 6
    · refine ifT (decide_eq_true h7) ?_
      refine i_ret (i_tup (i_cons (i_c (i_cons ?_))))
      refine st_pickS (zs := ["a", "b", "next", "quay"]) hS st rfl (by decide) (by decide) (fun N q => by walk_at "go"; exact q) fun z hz i m r H st => ?_
      walk_at "go"
      refine fin (e := .fin z) st (.cons (.str _) (.cons (.str _) .nil)) rfl ?_ (Nat.zero_le _) (by simp)
      show z ∈ pt5
      simp only [List.mem_cons, List.not_mem_nil, or_false] at hz
      rcases hz with rfl | rfl | rfl | rfl <;> simp [pt5]
    refine ifF (decide_eq_false h7) ?_
    walk_at "go"
    by_cases h8 : x = 7
    · refine ifT (decide_eq_true h8) ?_
      walk_at "go"
      refine st_drawn st hS (by decide) (by decide) fun y i m r H y0 y1 st => ?_
      obtain ⟨q, rfl, hq⟩ := num y0 (by omega)
      walk_at "go"
      refine st_newT K st (by simp) fun p np st => ?_
      have dp : Dt K (upd H p (.tup [.str "number", .int (q : Nat)])) (.ref p) (exD (.num q)) := dt_tup (.cons (.str _) (.cons (.int _) .nil)) np
      generalize upd H p _ = H at st dp
      walk_at "go"
      exact fin (e := .queue (.num q)) st (.cons (.str _) (.cons dp .nil)) rfl hq (Nat.succ_le_succ (Nat.zero_le _)) (by simp)
    refine ifF (decide_eq_false h8) ?_
    have hd : 0 < d := by
      rcases Nat.eq_zero_or_pos d with h | h
      · have := x2 h; omega
      · exact h
    obtain ⟨d, rfl⟩ : ∃ q, d = q + 1 := ⟨d - 1, by omega⟩
    have sub : ∀ {i : Nat} {m r : Int} {P : List (Hp → Prop)} {H : Hp} {N : VK} {E' : XK}, Stt [h] H0 (dL h a i m r []) P H → (∀ v e i m r H', Dt K H' v (exD e) → exN e → e.dp ≤ d + 1 → Stt [h] H0 (dL h a i m r []) P H' → N v H') → spVal K D [.ref h, .int (((d + 1 : Nat) : Int) - 1)] H N E' := by
      intro i m r P H N E' st kk
      refine ⟨h, a, d, by rw [show ((d + 1 : Nat) : Int) - 1 = (d : Nat) by omega], st.dr hS, by omega, fun v e H' dv hN hdp ex dr' => ?_⟩
      obtain ⟨i', m', r', st'⟩ := st.drn ex dr'
      exact kk v e i' m' r' H' dv hN hdp st'
    walk_at "go"
    by_cases h9 : x = 8
    · refine ifT (decide_eq_true h9) ?_
      walk_at "go"
      refine sub st fun v e i m r H dv hN hdp st => ?_
      walk_at "go"
      exact fin (e := .queue e) st (.cons (.str _) (.cons dv .nil)) rfl hN (Nat.succ_le_succ hdp) (by simp)
    refine ifF (decide_eq_false h9) ?_
    walk_at "go"
    by_cases h11 : x < 11
    · refine ifT (decide_eq_true h11) ?_
      walk_at "go"
      refine sub st fun v e i m r H dv hN hdp st => ?_
      walk_at "go"
      exact fin (e := .neg e) st (.cons (.str _) (.cons dv .nil)) rfl hN (Nat.succ_le_succ hdp) (by simp)
    refine ifF (decide_eq_false h11) ?_
    refine i_next ?_
    refine i_seq (i_asg ?_)
    refine st_pickS (zs := ["+", "-", "*", "div", "mod"]) hS st rfl (by decide) (by decide) (fun N q => by walk_at "go"; exact q) fun z hz i m r H st => ?_
    obtain ⟨o, rfl⟩ : ∃ o : Op, z = o.s := by
      simp only [List.mem_cons, List.not_mem_nil, or_false] at hz
      rcases hz with rfl | rfl | rfl | rfl | rfl
      · exact ⟨.add, rfl⟩
      · exact ⟨.sub, rfl⟩
      · exact ⟨.mul, rfl⟩
      · exact ⟨.div, rfl⟩
      · exact ⟨.mod, rfl⟩
    walk_at "go"
    refine sub st fun v1 e1 i m r H dv1 hN1 hdp1 st => ?_
    have st := st.know dv1 Pers.dt
    walk_at "go"
    refine sub st fun v2 e2 i m r H dv2 hN2 hdp2 st => ?_
    have dv1 : Dt K H v1 (exD e1) := st.pers 0 rfl
    walk_at "go"
    exact fin (e := .bin o e1 e2) st (.cons (.str _) (.cons (.str _) (.cons dv1 (.cons dv2 .nil)))) rfl ⟨hN1, hN2⟩ (Nat.succ_le_succ (Nat.max_le.mpr ⟨hdp1, hdp2⟩)) (by simp)
theorem ok_law_value (A : All K mg) (c_law_drawn : Cal P w K mg base 1 "_law_drawn" (spDrawn K)) : ∀ D, Cal P w K mg base (D + 1) "_law_value" (spVal K D) := by
  intro D
  induction D with
  | zero =>
    refine cal_of A.d_law_value sc_law_value (fun _ _ _ _ _ _ us hl => match us, hl with | [_, _], _ => rfl) (fun vs H Q E h => ?_) (fun f cdv A' outer s H0 vs Q E hr h => ?_)
    · obtain ⟨h, a, d, rfl, _⟩ := h
      rfl
    · obtain ⟨h, a, d, rfl, _, h, _⟩ := h
      exact absurd h (Nat.not_lt_zero _)
  | succ D ih => exact ok_law_value1 A (by omega) c_law_drawn ih
end
end Fb
namespace Fb
open PySem PySem.Spec PyProof.Rows L2 PySem.HandSPX SX
theorem i_catAq {K : PySem.W.Frag} {H : Hp} {Q : VK} {a b : Addr} {xs ys : List V} (ha : TupAt K H a xs) (hb : TupAt K H b ys) (hz : xs.length + ys.length ≤ 100000) (k : ∀ p H', Same H H' → TupAt K H' p (xs ++ ys) → Q (.ref p) H') : rCatA K (.ref a) (.ref b) H Q := by
  refine ⟨a, b, xs, ys, rfl, rfl, ha.sq, hb.sq, sz_of hz, fun e => ?_, fun _ e => ?_, fun _ _ p hp => ?_⟩
  · subst e
    exact k b H (fun _ _ h => h) hb
  · subst e
    exact k a H (fun _ _ h => h) (by rw [List.append_nil]; exact ha)
  · exact k p _ (Same.new hp) (.inl upd_same)
def arE (e : Ex) : Prop := (∃ n, n ≤ 6 ∧ e = .num n) ∨ (∃ v, e = .bin .mod v (.num 5)) ∨ e = .neg (.num 1)
mutual
def smA : Sm → Prop
  | .simple k e => k = .arrive → arE e
  | .link _ _ _ => True
  | .asg _ _ => True
  | .rep _ b => blA b
  | .ite _ _ _ a b => blA a ∧ blA b
def blA : List Sm → Prop
  | [] => True
  | s :: b => smA s ∧ blA b
end
theorem blA_mem : ∀ {b : List Sm}, blA b ↔ ∀ s ∈ b, smA s
  | [] => by simp [blA]
  | s :: b => by rw [blA, blA_mem]; simp
def spSt (K : PySem.W.Frag) (D : Nat) : Sp := fun vs H Q _ => ∃ (h a : Addr) (d : Nat), vs = [.ref h, .int (d : Nat)] ∧ Dr K H h a ∧ d < D ∧ ∀ v s H', Dt K H' v (smD s) → smS d s → smA s → ExB [h] H H' → Dr K H' h a → Q v H'
def spBl (K : PySem.W.Frag) (D : Nat) : Sp := fun vs H Q _ => ∃ (h a : Addr) (d : Nat), vs = [.ref h, .int (d : Nat)] ∧ Dr K H h a ∧ d < D ∧ ∀ v b H', Dt K H' v (blkD b) → blS d b → blA b → ExB [h] H H' → Dr K H' h a → Q v H'
section
variable {P : Program} {w : World} {K : PySem.W.Frag} {mg : Str → Option Value} {base : Heap}
variable {B : List Addr} {H0 H : Hp} {h a : Addr} {i : Nat} {m r : Int} {Ps : List (Hp → Prop)} {Q : VK} {σ : L2.St}
theorem st_numD {n : Int} (hS : SrcOk K B H0 h a) (st : Stt B H0 (dL h a i m r []) Ps H) (hσ : σ[0]? = some (some (.ref h))) (h0 : 0 < n) (hn : n ≤ 60)
    (k : ∀ p (q : Nat) i m r H', (q : Int) < n → Stt B H0 (dL h a i m r []) (Ps ++ [fun H => Dt K H (.ref p) (exD (.num q))]) H' → Q (.ref p) H') :
    tTup (tCons (tC (.str "number")) (tCons (tCall (spDrawn K) [] E0 (tCons (tVar 0) (tCons (tC (.int n)) tNil))) tNil)) σ H Q := by
  refine i_tup (i_cons (i_c (i_cons (i_call (i_cons (i_var hσ ?_))))))
  walk_at "go"
  refine st_drawn st hS h0 (by omega) fun x i m r H x0 x1 st => ?_
  obtain ⟨q, rfl⟩ : ∃ q : Nat, x = (q : Nat) := ⟨x.toNat, by omega⟩
  walk_at "go"
  refine ⟨sz_of (by simp), fun p np => ?_⟩
  have dp : Dt K (upd H p (.tup [.str "number", .int (q : Nat)])) (.ref p) (exD (.num q)) := dt_tup (.cons (.str _) (.cons (.int _) .nil)) np
  exact k p q i m r _ x1 ((st.ext (Same.new np)).know dp Pers.dt)
theorem st_valD {c : Nat} (hS : SrcOk K B H0 h a) (st : Stt B H0 (dL h a i m r []) Ps H) (hσ : σ[0]? = some (some (.ref h))) (hc : c < 3)
    (k : ∀ v e i m r H', exN e → e.dp ≤ c + 1 → Stt B H0 (dL h a i m r []) (Ps ++ [fun H => Dt K H v (exD e)]) H' → Q v H') :
    tCall (spVal K 3) [] E0 (tCons (tVar 0) (tCons (tC (.int (c : Nat))) tNil)) σ H Q := by
  refine i_call (i_cons (i_var hσ ?_))
  walk_at "go"
  refine ⟨h, a, c, rfl, st.dr hS, hc, fun v e H' dv hN hdp ex dr' => ?_⟩
  obtain ⟨i', m', r', st'⟩ := st.drn ex dr'
  exact k v e i' m' r' H' hN hdp (st'.know dv Pers.dt)
theorem st_orD {n : Int} {c : Nat} {j : Nat} {y : Int} (hS : SrcOk K B H0 h a) (st : Stt B H0 (dL h a i m r []) Ps H) (hσ : σ[0]? = some (some (.ref h))) (hj : σ[j]? = some (some (.int y))) (h0 : 0 < n) (hn : n ≤ 60) (hc : c < 3)
    (k : ∀ v e i m r H', exN e → e.dp ≤ c + 1 → Stt B H0 (dL h a i m r []) (Ps ++ [fun H => Dt K H v (exD e)]) H' → Q v H') :
    tIf (tTest (tOp (rI0 fun i j => V.bl (decide (i > j))) (tVar j) (tC (.int 0)))) (tTup (tCons (tC (.str "number")) (tCons (tCall (spDrawn K) [] E0 (tCons (tVar 0) (tCons (tC (.int n)) tNil))) tNil))) (tCall (spVal K 3) [] E0 (tCons (tVar 0) (tCons (tC (.int (c : Nat))) tNil))) σ H Q := by
  refine i_ifE (i_test (i_op (i_var hj ?_)))
  walk_at "go"
  by_cases hy : y > 0
  · refine ifT (decide_eq_true hy) ?_
    refine st_numD hS st hσ h0 hn fun p q i m r H' hq st => ?_
    exact k _ (.num q) i m r H' (show q < 10 ^ 18 by omega) (Nat.zero_le _) st
  · refine ifF (decide_eq_false hy) ?_
    exact st_valD hS st hσ hc k
set_option maxHeartbeats 0 in
theorem ok_law_statement (A : All K mg) {D lv : Nat} (hlv : 4 ≤ lv) (c_law_drawn : Cal P w K mg base 1 "_law_drawn" (spDrawn K)) (c_law_value : Cal P w K mg base 4 "_law_value" (spVal K 3)) (c_law_block : Cal P w K mg base lv "_law_block" (spBl K D)) : Cal P w K mg base (lv + 1) "_law_statement" (spSt K (D + 1)) := by
  refine cal_of A.d_law_statement sc_law_statement (fun _ _ _ _ _ _ us hl => match us, hl with | [_, _], _ => rfl) (fun vs H Q E h => ?_) (fun f cdv A' outer s0 H0 vs Q E hr h => ?_)
  · obtain ⟨h, a, d, rfl, _⟩ := h
    rfl
  · obtain ⟨h, a, d, rfl, dr, hD, k⟩ := h
    obtain ⟨i, m, r, st, hS⟩ := dr.start
    refine ⟨_, (pss_cons (ps_par (i := 2) (j := 3) (by rfl) sc_law_statement.nd rfl rfl (by decide) rfl rfl (pa_cons (pc c_law_drawn hr (by omega) (pa_cons (pv 0) (pa_cons (pe_ifExp (pt_cmpR op_gt (pv 1) pe_int (nomark _)) pe_int pe_int) pa_nil))) (pa_cons (pc c_law_drawn hr (by omega) (pa_cons (pv 0) (pa_cons pe_int pa_nil))) pa_nil)) (by rfl))
 (pss_cons (ps_if (pt_cmpR op_lt (pv 2) pe_int (nomark _)) (pss_cons (ps_set (i := 4) sc_law_statement.nd rfl (Or.inl rfl) (pe_lst (pa_cons (pe_tup (pa_cons pe_str (pa_cons (pc c_law_drawn hr (by omega) (pa_cons (pv 0) (pa_cons pe_int pa_nil))) pa_nil))) (pa_cons (pe_tup (pa_cons pe_str (pa_cons pe_str (pa_cons (pc c_law_value hr (by omega) (pa_cons (pv 0) (pa_cons pe_int pa_nil))) (pa_cons (pe_tup (pa_cons pe_str (pa_cons pe_int pa_nil))) pa_nil))))) pa_nil))))
 (pss_one (ps_ret (pe_tup (pa_cons pe_str (pa_cons (pe_ix (k_ixL (K := K) rfl) (pe_op op_cat (pv 4) (pe_lst (pa_cons (pe_tup (pa_cons pe_str (pa_cons (pe_tup (pa_cons pe_str (pa_cons pe_int pa_nil))) pa_nil))) pa_nil))) (pe_ifExp (pt_cmpR op_eq (pv 2) pe_int (nomark _)) (pv 3) pe_int) (fun _ _ => rfl)) pa_nil)))))) pss_nil)
 (pss_cons (ps_if (pt_cmpR op_lt (pv 2) pe_int (nomark _)) (pss_one (ps_ret (pe_tup (pa_cons pe_str (pa_cons (pc c_law_value hr (by omega) (pa_cons (pv 0) (pa_cons pe_int pa_nil))) pa_nil))))) pss_nil)
 (pss_cons (ps_if (pt_cmpR op_lt (pv 2) pe_int (nomark _)) (pss_cons (ps_set (i := 4) sc_law_statement.nd rfl (Or.inl rfl) (pe_ifExp (pt_cmpR op_gt (pv 3) pe_int (nomark _)) (pe_tup (pa_cons pe_str (pa_cons (pc c_law_drawn hr (by omega) (pa_cons (pv 0) (pa_cons pe_int pa_nil))) pa_nil))) (pc c_law_value hr (by omega) (pa_cons (pv 0) (pa_cons pe_int pa_nil)))))
 (pss_one (ps_ret (pe_tup (pa_cons pe_str (pa_cons (pe_ix (k_ixL (K := K) rfl) (pe_lst (pa_cons pe_str (pa_cons pe_str (pa_cons pe_str pa_nil)))) (pc c_law_drawn hr (by omega) (pa_cons (pv 0) (pa_cons pe_int pa_nil))) (fun _ _ => rfl)) (pa_cons (pv 4) pa_nil))))))) pss_nil)
 (pss_cons (ps_if (pt_cmpR op_eq (pv 2) pe_int (nomark _)) (pss_one (ps_ret (pe_tup (pa_cons pe_str (pa_cons (pe_ifExp (pt_cmpR op_gt (pv 3) pe_int (nomark _)) (pe_tup (pa_cons pe_str (pa_cons (pc c_law_drawn hr (by omega) (pa_cons (pv 0) (pa_cons pe_int pa_nil))) pa_nil))) (pc c_law_value hr (by omega) (pa_cons (pv 0) (pa_cons pe_int pa_nil)))) pa_nil))))) pss_nil)
 (pss_cons (ps_if (pt_cmpR op_eq (pv 2) pe_int (nomark _)) (pss_one (ps_ret (pe_tup (pa_cons pe_str (pa_cons (pe_tup (pa_cons pe_str (pa_cons pe_str (pa_cons (pe_tup (pa_cons pe_str pa_nil)) (pa_cons (pe_tup (pa_cons pe_str (pa_cons (pe_op op_add pe_int (pc c_law_drawn hr (by omega) (pa_cons (pv 0) (pa_cons pe_int pa_nil)))) pa_nil))) pa_nil))))) pa_nil))))) pss_nil)
 (pss_cons (ps_if (pt_cmpR op_eq (pv 2) pe_int (nomark _)) (pss_cons (ps_set (i := 5) sc_law_statement.nd rfl (Or.inl rfl) (pe_tup (pa_cons pe_str (pa_cons (pe_ix (k_ixL (K := K) rfl) (pe_lst (pa_cons pe_str (pa_cons pe_str (pa_cons pe_str pa_nil)))) (pc c_law_drawn hr (by omega) (pa_cons (pv 0) (pa_cons pe_int pa_nil))) (fun _ _ => rfl)) pa_nil))))
 (pss_cons (ps_if (pt_cmpR op_gt (pv 3) pe_int (nomark _)) (pss_one (ps_set (i := 5) sc_law_statement.nd rfl (Or.inl rfl) (pe_tup (pa_cons pe_str (pa_cons (pe_tup (pa_cons pe_str (pa_cons (pc c_law_drawn hr (by omega) (pa_cons (pv 0) (pa_cons pe_int pa_nil))) pa_nil))) pa_nil))))) pss_nil)
 (pss_one (ps_ret (pe_tup (pa_cons pe_str (pa_cons (pe_tup (pa_cons pe_str (pa_cons (pc c_law_drawn hr (by omega) (pa_cons (pv 0) (pa_cons pe_int pa_nil))) pa_nil))) (pa_cons (pe_tup (pa_cons pe_str (pa_cons (pc c_law_drawn hr (by omega) (pa_cons (pv 0) (pa_cons pe_int pa_nil))) pa_nil))) (pa_cons (pv 5) pa_nil))))))))) pss_nil)
 (pss_cons (ps_if (pt_cmpR op_lt (pv 2) pe_int (nomark _)) (pss_cons (ps_set (i := 6) sc_law_statement.nd rfl (Or.inl rfl) (pe_ifExp (pt_cmpR op_gt (pv 3) pe_int (nomark _)) (pe_tup (pa_cons pe_str (pa_cons (pc c_law_drawn hr (by omega) (pa_cons (pv 0) (pa_cons pe_int pa_nil))) pa_nil))) (pc c_law_value hr (by omega) (pa_cons (pv 0) (pa_cons pe_int pa_nil)))))
 (pss_one (ps_ret (pe_tup (pa_cons pe_str (pa_cons (pv 6) (pa_cons (pc c_law_block hr (by omega) (pa_cons (pv 0) (pa_cons (pe_op op_sub (pv 1) pe_int) pa_nil))) pa_nil))))))) pss_nil)
 (pss_cons (ps_set (i := 7) sc_law_statement.nd rfl (Or.inl rfl) (pe_ix (k_ixL (K := K) rfl) (pe_lst (pa_cons pe_str (pa_cons pe_str (pa_cons pe_str (pa_cons pe_str (pa_cons pe_str (pa_cons pe_str pa_nil))))))) (pc c_law_drawn hr (by omega) (pa_cons (pv 0) (pa_cons pe_int pa_nil))) (fun _ _ => rfl)))
 (pss_cons (ps_set (i := 8) sc_law_statement.nd rfl (Or.inl rfl) (pe_ifExp (pt_cmpR op_gt (pv 3) pe_int (nomark _)) (pc c_law_block hr (by omega) (pa_cons (pv 0) (pa_cons (pe_op op_sub (pv 1) pe_int) pa_nil))) (pe_tup pa_nil)))
 (pss_cons (ps_set (i := 9) sc_law_statement.nd rfl (Or.inl rfl) (pe_tup (pa_cons pe_str (pa_cons (pc c_law_value hr (by omega) (pa_cons (pv 0) (pa_cons pe_int pa_nil))) (pa_cons (pv 7) (pa_cons (pc c_law_value hr (by omega) (pa_cons (pv 0) (pa_cons pe_int pa_nil))) pa_nil))))))
 (pss_one (ps_ret (pe_op (k_catA (K := K) rfl) (pv 9) (pe_tup (pa_cons (pc c_law_block hr (by omega) (pa_cons (pv 0) (pa_cons (pe_op op_sub (pv 1) pe_int) pa_nil))) (pa_cons (pv 8) pa_nil))))))))))))))))), ?_⟩
    have fin : ∀ {i : Nat} {m r : Int} {P : List (Hp → Prop)} {H : Hp} {xs : List V} {ds : List PyData} {s : Sm}, Stt [h] H0 (dL h a i m r []) P H → DtAll K H xs ds → smD s = .tuple ds → smS d s → smA s → xs.length ≤ 10 → xs.length ≤ sizeLine ∧ ∀ p, H p = none → Q (.ref p) (upd H p (.tup xs)) := by
      intro i m r P H xs ds s st hxs he hN hA hl
      refine st_newT K st (by omega) fun p np st => ?_
      exact k _ s _ (by rw [he]; exact dt_tup hxs np) hN hA st.exB (st.dr hS)
    (try (dsimp only [L2.cxOf, L2.Cx.nox, L2.Cx.wish, L2.Cx.blk]))
    refine i_join (fun σ' H' => ∃ (x y : Int) (i : Nat) (m r : Int), σ' = [some (.ref h), some (.int (d : Nat)), some (.int x), some (.int y), none, none, none, none, none, none] ∧ 0 ≤ x ∧ x < 16 ∧ (d = 0 → x < 11) ∧ 0 ≤ y ∧ y < 3 ∧ Stt [h] H0 (dL h a i m r []) [] H') (fun N J => ?_) ?_
    · walk_at "go"
      have two : ∀ {n : Int} {i : Nat} {m r : Int} {H : Hp} {R : V → Hp → Prop}, 0 < n → n ≤ 16 → Stt [h] H0 (dL h a i m r []) [] H → (∀ x i m r H', 0 ≤ x → x < n → Stt [h] H0 (dL h a i m r []) [] H' → R (.int x) H') → spDrawn K [.ref h, .int n] H R E0 := fun h0 h1 st kk => st_drawn st hS h0 (by omega) kk
      by_cases h0 : 0 < d
      · refine ifT (decide_eq_true (by omega)) ?_
        walk_at "go"
        refine two (by decide) (by decide) st fun x i m r H x0 x1 st => ?_
        walk_at "go"
        refine two (by decide) (by decide) st fun y i m r H y0 y1 st => ?_
        walk_at "go"
        refine ⟨_, _, rfl, ?_⟩
        exact J _ _ ⟨x, y, i, m, r, rfl, x0, x1, fun e => by omega, y0, y1, st⟩
      · refine ifF (decide_eq_false (by omega)) ?_
        walk_at "go"
        refine two (by decide) (by decide) st fun x i m r H x0 x1 st => ?_
        walk_at "go"
        refine two (by decide) (by decide) st fun y i m r H y0 y1 st => ?_
        walk_at "go"
        refine ⟨_, _, rfl, ?_⟩
        exact J _ _ ⟨x, y, i, m, r, rfl, x0, by omega, fun e => x1, y0, y1, st⟩
    clear st
    rintro σ H ⟨x, y, i, m, r, rfl, x0, x1, x2, y0, y1, st⟩
    walk_at "go"
    by_cases h3 : x < 3
    · refine ifT (decide_eq_true h3) ?_
      refine i_seq (i_asg (i_lst (i_cons ?_)))
      refine st_numD hS st rfl (by decide) (by decide) fun p1 q1 i m r H hq1 st => ?_
      refine i_cons (i_tup (i_cons (i_c (i_cons (i_c (i_cons ?_))))))
      refine st_valD (c := 1) hS st rfl (by decide) fun v1 e1 i m r H hN1 hd1 st => ?_
      walk_at "go"
      refine ⟨sz_of (by simp), fun p5 np5 => ?_⟩
      have d5 : Dt K (upd H p5 (.tup [.str "number", .int 5])) (.ref p5) (exD (.num 5)) := dt_tup (.cons (.str _) (.cons (.int _) .nil)) np5
      have st := (st.ext (Same.new np5)).know d5 Pers.dt
      generalize upd H p5 _ = H at st d5
      walk_at "go"
      have dv1 : Dt K H v1 (exD e1) := st.pers 1 rfl
      refine ⟨sz_of (by simp), fun pb npb => ?_⟩
      have db : Dt K (upd H pb (.tup [.str "binary", .str "mod", v1, .ref p5])) (.ref pb) (exD (.bin .mod e1 (.num 5))) := dt_tup (.cons (.str _) (.cons (.str _) (.cons dv1 (.cons d5 .nil)))) npb
      have st := (st.ext (Same.new npb)).know db Pers.dt
      generalize upd H pb _ = H at st db
      walk_at "go"
      refine st_newL st (by simp) fun l nl st => ?_
      walk_at "go"
      refine ⟨sz_of (by simp), fun p6 np6 => ?_⟩
      have d6 : Dt K (upd (upd H l (.lst [.ref p1, .ref pb])) p6 (.tup [.str "number", .int 1])) (.ref p6) (exD (.num 1)) := dt_tup (.cons (.str _) (.cons (.int _) .nil)) np6
      have st := (st.ext (Same.new np6)).know d6 Pers.dt
      generalize upd (upd H l _) p6 _ = H at st d6
      walk_at "go"
      refine ⟨sz_of (by simp), fun p7 np7 => ?_⟩
      have d7 : Dt K (upd H p7 (.tup [.str "negative", .ref p6])) (.ref p7) (exD (.neg (.num 1))) := dt_tup (.cons (.str _) (.cons d6 .nil)) np7
      have st := (st.ext (Same.new np7)).know d7 Pers.dt
      generalize upd H p7 _ = H at st d7
      walk_at "go"
      refine st_newL st (by simp) fun l2 nl2 st => ?_
      refine st_cat st (st.at 1 rfl) (st.at 2 rfl) (by simp) fun l3 H2 nl3 e3 st => ?_
      walk_at "go"
      have dp1 : Dt K H2 (.ref p1) (exD (.num q1)) := st.pers 0 rfl
      have dpb : Dt K H2 (.ref pb) (exD (.bin .mod e1 (.num 5))) := st.pers 3 rfl
      have dp7 : Dt K H2 (.ref p7) (exD (.neg (.num 1))) := st.pers 5 rfl
      have pick : ∀ {z : Int} {N : VK}, 0 ≤ z → z < 3 → (∀ v e, Dt K H2 v (exD e) → exN e → e.dp ≤ 3 → arE e → N v H2) → rIxL K (.ref l3) (.int z) H2 N := by
        intro z N z0 z3 hN
        obtain ⟨v, hv, hm⟩ := atI_mem (xs := [V.ref p1, V.ref pb, V.ref p7]) z0 (by simpa using z3)
        refine i_ixL (st.sqL 3 rfl) hv ?_
        simp only [List.mem_cons, List.not_mem_nil, or_false] at hm
        rcases hm with rfl | rfl | rfl
        · exact hN _ _ dp1 (show q1 < 10 ^ 18 by omega) (Nat.zero_le _) (.inl ⟨q1, by omega, rfl⟩)
        · refine hN _ _ dpb ⟨hN1, (by decide : (5 : Nat) < 10 ^ 18)⟩ ?_ (.inr (.inl ⟨e1, rfl⟩))
          show max e1.dp 0 + 1 ≤ 3
          omega
        · exact hN _ _ dp7 (show (1 : Nat) < 10 ^ 18 by decide) (by decide) (.inr (.inr rfl))
      have st := st.picks [0] (by decide) (L' := dL h a i m r []) rfl
      have done : ∀ v e, Dt K H2 v (exD e) → exN e → e.dp ≤ 3 → arE e → ([V.str "arrive", v] : List V).length ≤ sizeLine ∧ ∀ p, H2 p = none → Q (.ref p) (upd H2 p (.tup [.str "arrive", v])) := fun v e dv hN hd hA => fin (s := .simple .arrive e) st (.cons (.str _) (.cons dv .nil)) (by rw [smD]; rfl) (by cases d <;> exact ⟨hN, hd⟩) (by rw [smA]; exact fun _ => hA) (by simp)
      by_cases hx0 : x = 0
      · refine ifT (decide_eq_true hx0) ?_
        walk_at "go"
        refine pick y0 y1 fun v e dv hN hd hA => ?_
        walk_at "go"
        exact done v e dv hN hd hA
      · refine ifF (decide_eq_false hx0) ?_
        walk_at "go"
        refine pick (by decide) (by decide) fun v e dv hN hd hA => ?_
        walk_at "go"
        exact done v e dv hN hd hA
    refine ifF (decide_eq_false h3) ?_
    walk_at "go"
    have smp : ∀ {i : Nat} {m r : Int} {P : List (Hp → Prop)} {H : Hp} {v : V} {e : Ex} (kw : Kw), kw ≠ .arrive → Stt [h] H0 (dL h a i m r []) P H → Dt K H v (exD e) → exN e → e.dp ≤ 3 → ([V.str kw.s, v] : List V).length ≤ sizeLine ∧ ∀ p, H p = none → Q (.ref p) (upd H p (.tup [.str kw.s, v])) := fun kw hk st dv hN hd => fin (s := .simple kw _) st (.cons (.str _) (.cons dv .nil)) (by rw [smD]) (by cases d <;> exact ⟨hN, hd⟩) (by rw [smA]; exact fun e => absurd e hk) (by simp)
    by_cases h5 : x < 5
    · refine ifT (decide_eq_true h5) ?_
      refine i_ret (i_tup (i_cons (i_c (i_cons ?_))))
      refine st_valD (c := 2) hS st rfl (by decide) fun v1 e1 i m r H hN1 hd1 st => ?_
      have dv : Dt K H v1 (exD e1) := st.pers 0 rfl
      walk_at "go"
      exact smp .print (by decide) st dv hN1 hd1
    refine ifF (decide_eq_false h5) ?_
    walk_at "go"
    by_cases h8 : x < 8
    · refine ifT (decide_eq_true h8) ?_
      refine i_seq (i_asg ?_)
      refine st_orD (c := 2) hS st rfl rfl (by decide) (by decide) (by decide) fun v1 e1 i m r H hN1 hd1 st => ?_
      refine i_name ?_
      refine i_ret (i_tup (i_cons (i_c (i_cons ?_))))
      refine st_pickS (zs := ["x", "y", "count"]) hS st rfl (by decide) (by decide) (fun N q => by walk_at "go"; exact q) fun z hz i m r H st => ?_
      have dv : Dt K H v1 (exD e1) := st.pers 0 rfl
      walk_at "go"
      exact fin (s := .asg z e1) st (.cons (.str _) (.cons (.str _) (.cons dv .nil))) (by rw [smD]) (by cases d <;> exact ⟨hz, hN1, hd1⟩) (by rw [smA]; trivial) (by simp)
    refine ifF (decide_eq_false h8) ?_
    walk_at "go"
    by_cases h9 : x = 8
    · refine ifT (decide_eq_true h9) ?_
      refine i_ret (i_tup (i_cons (i_c (i_cons ?_))))
      refine st_orD (c := 1) hS st rfl rfl (by decide) (by decide) (by decide) fun v1 e1 i m r H hN1 hd1 st => ?_
      have dv : Dt K H v1 (exD e1) := st.pers 0 rfl
      walk_at "go"
      exact smp .send (by decide) st dv hN1 (by omega)
    refine ifF (decide_eq_false h9) ?_
    walk_at "go"
    by_cases h10 : x = 9
    · refine ifT (decide_eq_true h10) ?_
      walk_at "go"
      refine ⟨sz_of (by simp), fun pn npn => ?_⟩
      have dn : Dt K (upd H pn (.tup [.str "next"])) (.ref pn) (exD .next) := dt_tup (.cons (.str _) .nil) npn
      have st := (st.ext (Same.new npn)).know dn Pers.dt
      generalize upd H pn _ = H at st dn
      walk_at "go"
      refine st_drawn st hS (by decide) (by decide) fun z i m r H z0 z1 st => ?_
      walk_at "go"
      obtain ⟨q, hq, hq2⟩ : ∃ q : Nat, (1 : Int) + z = (q : Nat) ∧ q < 10 ^ 18 := ⟨(1 + z).toNat, by omega, by omega⟩
      rw [hq]
      refine ⟨sz_of (by simp), fun p1 np1 => ?_⟩
      have d1 : Dt K (upd H p1 (.tup [.str "number", .int (q : Nat)])) (.ref p1) (exD (.num q)) := dt_tup (.cons (.str _) (.cons (.int _) .nil)) np1
      have st := (st.ext (Same.new np1)).know d1 Pers.dt
      generalize upd H p1 _ = H at st d1
      walk_at "go"
      have dn : Dt K H (.ref pn) (exD .next) := st.pers 0 rfl
      refine ⟨sz_of (by simp), fun pb npb => ?_⟩
      have db : Dt K (upd H pb (.tup [.str "binary", .str "-", .ref pn, .ref p1])) (.ref pb) (exD (.bin .sub .next (.num q))) := dt_tup (.cons (.str _) (.cons (.str _) (.cons dn (.cons d1 .nil)))) npb
      have st := (st.ext (Same.new npb)).know db Pers.dt
      generalize upd H pb _ = H at st db
      walk_at "go"
      exact smp .leave (by decide) st db ⟨trivial, hq2⟩ (by show max 0 0 + 1 ≤ 3; decide)
    refine ifF (decide_eq_false h10) ?_
    walk_at "go"
    by_cases h11 : x = 10
    · refine ifT (decide_eq_true h11) ?_
      refine i_seq (i_asg (i_tup (i_cons (i_c (i_cons ?_)))))
      refine st_pickS (zs := ["a", "port", "quay"]) hS st rfl (by decide) (by decide) (fun N q => by walk_at "go"; exact q) fun z hz i m r H st => ?_
      walk_at "gi"
      refine ⟨sz_of (by simp), fun p1 np1 => ?_⟩
      have dp : Dt K (upd H p1 (.tup [.str "port", .str z])) (.ref p1) (tgD (.port z)) := dt_tup (.cons (.str _) (.cons (.str _) .nil)) np1
      have st := (st.ext (Same.new np1)).know dp Pers.dt
      generalize upd H p1 _ = H at st dp
      walk_at "gi"
      refine i_joinI (fun σ' H' => ∃ (vt : V) (t : Tg) (i : Nat) (m r : Int), σ' = [some (.ref h), some (.int (d : Nat)), some (.int x), some (.int y), none, some vt, none, none, none, none] ∧ tgN t ∧ Stt [h] H0 (dL h a i m r []) [fun H => Dt K H vt (tgD t)] H') (fun N J => ?_) ?_
      · walk_at "go"
        by_cases hy : y > 0
        · refine ifT (decide_eq_true hy) ?_
          refine i_asg (i_tup (i_cons (i_c (i_cons ?_))))
          refine st_numD hS st rfl (by decide) (by decide) fun p2 q2 i m r H hq2 st => ?_
          walk_at "go"
          have d2 : Dt K H (.ref p2) (exD (.num q2)) := st.pers 1 rfl
          refine ⟨sz_of (by simp), fun p3 np3 => ?_⟩
          have d3 : Dt K (upd H p3 (.tup [.str "station", .ref p2])) (.ref p3) (tgD (.station (.num q2))) := dt_tup (.cons (.str _) (.cons d2 .nil)) np3
          have st := ((st.ext (Same.new np3)).know d3 Pers.dt).only (P' := [fun H => Dt K H (.ref p3) (tgD (.station (.num q2)))]) [2] rfl
          walk_at "go"
          exact J _ _ ⟨_, .station (.num q2), i, m, r, rfl, ⟨show q2 < 10 ^ 18 by omega, Nat.zero_le _⟩, st⟩
        · refine ifF (decide_eq_false hy) ?_
          refine i_next ?_
          refine J _ _ ⟨_, .port z, i, m, r, rfl, ?_, st⟩
          show z ∈ pt5
          simp only [List.mem_cons, List.not_mem_nil, or_false] at hz
          rcases hz with rfl | rfl | rfl <;> simp [pt5]
      · clear st dp
        rintro σ H ⟨vt, t, i, m, r, rfl, ht, st⟩
        refine i_ret (i_tup (i_cons (i_c (i_cons ?_))))
        refine st_numD hS st rfl (by decide) (by decide) fun p2 q2 i m r H hq2 st => ?_
        refine i_cons ?_
        refine st_numD hS st rfl (by decide) (by decide) fun p3 q3 i m r H hq3 st => ?_
        have d1 : Dt K H vt (tgD t) := st.pers 0 rfl
        have d2 : Dt K H (.ref p2) (exD (.num q2)) := st.pers 1 rfl
        have d3 : Dt K H (.ref p3) (exD (.num q3)) := st.pers 2 rfl
        walk_at "go"
        exact fin (s := .link (.num q2) (.num q3) t) st (.cons (.str _) (.cons d2 (.cons d3 (.cons d1 .nil)))) (by rw [smD]) (by cases d <;> exact ⟨⟨show q2 < 10 ^ 18 by omega, Nat.zero_le _⟩, ⟨show q3 < 10 ^ 18 by omega, Nat.zero_le _⟩, ht⟩) (by rw [smA]; trivial) (by simp)
    refine ifF (decide_eq_false h11) ?_
    have hd : 0 < d := by
      rcases Nat.eq_zero_or_pos d with h | h
      · have := x2 h; omega
      · exact h
    obtain ⟨d, rfl⟩ : ∃ q, d = q + 1 := ⟨d - 1, by omega⟩
    have blk : ∀ {i : Nat} {m r : Int} {P : List (Hp → Prop)} {H : Hp} {N : VK} {E' : XK}, Stt [h] H0 (dL h a i m r []) P H → (∀ v b i m r H', blS d b → blA b → Stt [h] H0 (dL h a i m r []) (P ++ [fun H => Dt K H v (blkD b)]) H' → N v H') → spBl K D [.ref h, .int (((d + 1 : Nat) : Int) - 1)] H N E' := by
      intro i m r P H N E' st kk
      refine ⟨h, a, d, by rw [show ((d + 1 : Nat) : Int) - 1 = (d : Nat) by omega], st.dr hS, by omega, fun v e H' dv hN hA ex dr' => ?_⟩
      obtain ⟨i', m', r', st'⟩ := st.drn ex dr'
      exact kk v e i' m' r' H' hN hA (st'.know dv Pers.dt)
    walk_at "go"
    by_cases h13 : x < 13
    · refine ifT (decide_eq_true h13) ?_
      refine i_seq (i_asg ?_)
      refine st_orD (c := 1) hS st rfl rfl (by decide) (by decide) (by decide) fun v1 e1 i m r H hN1 hd1 st => ?_
      walk_at "go"
      refine blk st fun v2 b i m r H hS2 hA2 st => ?_
      have d1 : Dt K H v1 (exD e1) := st.pers 0 rfl
      have d2 : Dt K H v2 (blkD b) := st.pers 1 rfl
      walk_at "go"
      exact fin (s := .rep e1 b) st (.cons (.str _) (.cons d1 (.cons d2 .nil))) (by rw [smD]) ⟨⟨hN1, by omega⟩, hS2⟩ (by rw [smA]; exact hA2) (by simp)
    refine ifF (decide_eq_false h13) ?_
    refine i_next ?_
    refine i_seq (i_asg ?_)
    refine st_pickS (zs := ["<", "<=", "=", "!=", ">=", ">"]) hS st rfl (by decide) (by decide) (fun N q => by walk_at "go"; exact q) fun z hz i m r H st => ?_
    obtain ⟨cp, rfl⟩ : ∃ c : Cp, z = c.s := by
      simp only [List.mem_cons, List.not_mem_nil, or_false] at hz
      rcases hz with rfl | rfl | rfl | rfl | rfl | rfl
      · exact ⟨.lt, rfl⟩
      · exact ⟨.le, rfl⟩
      · exact ⟨.eq, rfl⟩
      · exact ⟨.ne, rfl⟩
      · exact ⟨.ge, rfl⟩
      · exact ⟨.gt, rfl⟩
    refine i_name ?_
    refine i_join (fun σ' H' => ∃ (vo : V) (bo : List Sm) (i : Nat) (m r : Int), σ' = [some (.ref h), some (.int ((d + 1 : Nat) : Int)), some (.int x), some (.int y), none, none, none, some (.str cp.s), some vo, none] ∧ blS d bo ∧ blA bo ∧ Stt [h] H0 (dL h a i m r []) [fun H => Dt K H vo (blkD bo)] H') (fun N J => ?_) ?_
    · walk_at "go"
      by_cases hy : y > 0
      · refine ifT (decide_eq_true hy) ?_
        walk_at "go"
        refine blk st fun v2 b i m r H hS2 hA2 st => ?_
        walk_at "go"
        exact J _ _ ⟨v2, b, i, m, r, rfl, hS2, hA2, st⟩
      · refine ifF (decide_eq_false hy) ?_
        walk_at "go"
        refine ⟨sz_of (by simp), fun p1 np1 => ?_⟩
        have dp : Dt K (upd H p1 (.tup [])) (.ref p1) (blkD []) := by
          show Dt K _ _ (.tuple (smsD []))
          rw [smsD]
          exact dt_tup .nil np1
        have st := (st.ext (Same.new np1)).know dp Pers.dt
        walk_at "go"
        exact J _ _ ⟨_, [], i, m, r, rfl, ⟨Nat.zero_le _, fun s hs => nomatch hs⟩, by rw [blA]; trivial, st⟩
    clear st
    rintro σ H ⟨vo, bo, i, m, r, rfl, hSo, hAo, st⟩
    refine i_seq (i_asg (i_tup (i_cons (i_c (i_cons ?_)))))
    refine st_valD (c := 1) hS st rfl (by decide) fun v1 e1 i m r H hN1 hd1 st => ?_
    refine i_cons (i_var rfl (i_cons ?_))
    refine st_valD (c := 1) hS st rfl (by decide) fun v2 e2 i m r H hN2 hd2 st => ?_
    walk_at "go"
    refine st_newT K st (by simp) fun ph nph st => ?_
    walk_at "go"
    refine blk st fun v3 b3 i m r H hS3 hA3 st => ?_
    walk_at "go"
    refine st_newT K st (by simp) fun pt npt st => ?_
    have hh : TupAt K (upd H pt (.tup [v3, vo])) ph [.str "if", v1, .str cp.s, v2] := st.pers 3 rfl
    have ht : TupAt K (upd H pt (.tup [v3, vo])) pt [v3, vo] := st.pers 5 rfl
    refine i_catAq hh ht (by simp) fun p H2 es hp => ?_
    have st := st.ext es
    have dvo : Dt K H2 vo (blkD bo) := st.pers 0 rfl
    have dv1 : Dt K H2 v1 (exD e1) := st.pers 1 rfl
    have dv2 : Dt K H2 v2 (exD e2) := st.pers 2 rfl
    have dv3 : Dt K H2 v3 (blkD b3) := st.pers 4 rfl
    refine k _ (.ite e1 cp e2 b3 bo) H2 ?_ ⟨⟨hN1, by omega⟩, ⟨hN2, by omega⟩, hS3, hSo⟩ (by rw [smA]; exact ⟨hA3, hAo⟩) st.exB (st.dr hS)
    rw [smD]
    exact Dt.tup hp (.cons (.str _) (.cons dv1 (.cons (.str _) (.cons dv2 (.cons dv3 (.cons dvo .nil))))))
end
end Fb
namespace Fb
open PySem PySem.Spec PyProof.Rows L2 PySem.HandSPX SX
section
variable {P : Program} {w : World} {K : PySem.W.Frag} {mg : Str → Option Value} {base : Heap}
theorem ok_law_block (A : All K mg) {D lv : Nat} (hlv : 1 ≤ lv) (c_law_drawn : Cal P w K mg base 1 "_law_drawn" (spDrawn K)) (c_law_statement : Cal P w K mg base lv "_law_statement" (spSt K D)) : Cal P w K mg base (lv + 1) "_law_block" (spBl K D) := by
  refine cal_of A.d_law_block sc_law_block (fun _ _ _ _ _ _ us hl => match us, hl with | [_, _], _ => rfl) (fun vs H Q E h => ?_) (fun f cdv A' outer s0 H0 vs Q E hr h => ?_)
  · obtain ⟨h, a, d, rfl, _⟩ := h
    rfl
  · obtain ⟨h, a, d, rfl, dr, hD, k⟩ := h
    obtain ⟨i, m, r, st, hS⟩ := dr.start
    refine ⟨_, (pss_one (ps_ret (pe_callTy (T := "tuple") (k_tuple (K := K) rfl) (by rfl) A.b_tuple (by decide +kernel) (pa_cons (pe_lc rfl sc_law_block.nd (pi_range1 (by rfl) A.b_range (pa_cons (pc c_law_drawn hr (by omega) (pa_cons (pv 0) (pa_cons (pe_ix (k_ixL (K := K) rfl) (pe_lst (pa_cons pe_int (pa_cons pe_int pa_nil))) (pe_callTy (T := "int") f_intB (by rfl) A.b_int (by decide +kernel) (pa_cons (pe_cmpR op_gt (pv 1) pe_int (nomark _)) pa_nil)) (fun _ _ => rfl)) pa_nil))) pa_nil)) (blkOk_by (own := [("_law_k", 2)]) (N := ["_law_state", "_law_deep", "_law_k"]) (sc := defScope s_law_block) (by decide +kernel)) (fun _ _ _ _ _ => (pg_name (i := 2) sc_law_block.nd rfl (Or.inl rfl))) (fun _ _ _ _ _ => pts_nil) (fun _ _ _ _ _ => (pc c_law_statement hr (by omega) (pa_cons (pv 0) (pa_cons (pv 1) pa_nil))))) pa_nil)))), ?_⟩
    (try (dsimp only [L2.cxOf, L2.Cx.nox, L2.Cx.wish, L2.Cx.blk]))
    walk_at "go"
    refine st_newL st (by simp) fun l nl st => ?_
    walk_at "go"
    obtain ⟨c, hc, hc0, hc1, he⟩ : ∃ c : Int, c = (capB d : Nat) ∧ 0 < c ∧ c ≤ 5 ∧ ∃ j : Int, (if decide ((1 : Int) < (d : Int)) = true then (1 : Int) else 0) = j ∧ atI [V.int 3, V.int 6] j = some (V.int (c + 1)) := by
      unfold capB
      by_cases h1 : 1 < d
      · refine ⟨5, by rw [if_pos h1]; rfl, by decide, by decide, 1, ?_, rfl⟩
        rw [decide_eq_true (by omega)]; rfl
      · refine ⟨2, by rw [if_neg h1]; rfl, by decide, by decide, 0, ?_, rfl⟩
        rw [decide_eq_false (by omega)]; rfl
    obtain ⟨j, hj, he⟩ := he
    rw [hj]
    refine i_ixL (st.sqL 1 rfl) he ?_
    walk_at "go"
    refine st_drawn (L := [(l, .lst [V.int 3, V.int 6])]) st hS (by omega) (by omega) fun x i m r H x0 x1 st => ?_
    have st : Stt [h] H0 (dL h a i m r []) [] H := Stt.drops (N := [(l, .lst [V.int 3, V.int 6])]) st
    walk_at "go"
    refine ⟨x, rfl, by omega, by omega, LcIt.go walk_range (fun D q H => ∃ (vs : List V) (bs : List Sm) (i : Nat) (m r : Int), vs.length = q ∧ bs.length = q ∧ (∀ s ∈ bs, smS d s ∧ smA s) ∧ Stt [h] H0 (dL h a i m r [(D, .lst vs)]) [fun H => DtAll K H vs (bs.map smD)] H) (fun D hD => ⟨[], [], i, m, r, rfl, rfl, fun s hs => (nomatch hs), ?_⟩) (fun _ _ _ _ _ => trivial) ?_ ?_⟩
    · exact (st.new (o := .lst []) hD trivial).know (φ := fun H => DtAll K H [] []) .nil Pers.all
    · clear st
      rintro D q v H H' hq ⟨vs, bs, i, m, r, hv, hb, hB, st⟩ ⟨rfl, rfl⟩
      walk_at "go"
      refine ⟨rfl, ?_⟩
      walk_at "go"
      refine iteT ?_
      walk_at "go"
      refine ⟨h, a, d, rfl, st.dr hS, hD, fun v s H' dv hN hA ex dr' => ?_⟩
      obtain ⟨i', m', r', st'⟩ := st.drn ex dr'
      refine ⟨vs, st'.at 1 rfl, sz_lt (by omega), vs ++ [v], bs ++ [s], i', m', r', by simp [hv], by simp [hb], ?_, ?_⟩
      · intro t ht
        rcases List.mem_append.mp ht with ht | ht
        · exact hB t ht
        · rw [List.mem_singleton.mp ht]; exact ⟨hN, hA⟩
      · have dd : DtAll K H' (vs ++ [v]) ((bs ++ [s]).map smD) := by
          rw [List.map_append]
          exact (st'.pers 0 rfl : DtAll K H' vs (bs.map smD)).snoc dv
        exact ((st'.know (φ := fun H => DtAll K H (vs ++ [v]) ((bs ++ [s]).map smD)) dd Pers.all).set 1 (o' := .lst (vs ++ [v])) rfl trivial).only [1] rfl
    · clear st
      rintro D H ⟨vs, bs, i, m, r, hv, hb, hB, st⟩
      walk_at "go"
      refine st_tupleL st (st.sqL 1 rfl) fun p H' np st => ?_
      have dd : DtAll K H' vs (bs.map smD) := st.pers 0 rfl
      have hp : TupAt K H' p vs := st.pers 1 rfl
      have st : Stt [h] H0 (dL h a i m r []) _ H' := Stt.drops (N := [(D, .lst vs)]) st
      refine k _ bs H' ?_ ⟨by omega, fun s hs => (hB s hs).1⟩ (blA_mem.mpr fun s hs => (hB s hs).2) st.exB (st.dr hS)
      show Dt K H' (.ref p) (.tuple (smsD bs))
      rw [smsD_map]
      exact Dt.tup hp dd
theorem law_sb (A : All K mg) (c_law_drawn : Cal P w K mg base 1 "_law_drawn" (spDrawn K)) (c_law_value : Cal P w K mg base 4 "_law_value" (spVal K 3)) : ∀ D, Cal P w K mg base (5 + 2 * D) "_law_statement" (spSt K D) ∧ Cal P w K mg base (6 + 2 * D) "_law_block" (spBl K D) := by
  intro D
  induction D with
  | zero =>
    have h : Cal P w K mg base 5 "_law_statement" (spSt K 0) := by
      refine cal_of A.d_law_statement sc_law_statement (fun _ _ _ _ _ _ us hl => match us, hl with | [_, _], _ => rfl) (fun vs H Q E h => ?_) (fun f cdv A' outer s H0 vs Q E hr h => ?_)
      · obtain ⟨h, a, d, rfl, _⟩ := h
        rfl
      · obtain ⟨h, a, d, rfl, _, h, _⟩ := h
        exact absurd h (Nat.not_lt_zero _)
    exact ⟨h, ok_law_block A (by omega) c_law_drawn h⟩
  | succ D ih =>
    have h := ok_law_statement A (by omega) c_law_drawn c_law_value ih.2
    rw [show 6 + 2 * D + 1 = 5 + 2 * (D + 1) by omega] at h
    refine ⟨h, ?_⟩
    rw [show 6 + 2 * (D + 1) = 5 + 2 * (D + 1) + 1 by omega]
    exact ok_law_block A (by omega) c_law_drawn h
end
end Fb
namespace Fb
open PySem PySem.Spec PyProof.Rows L2 PySem.HandSPX SX
def spLLv (K : PySem.W.Frag) : Sp := fun vs H Q _ => ∃ (v : V) (e : Ex), vs = [v] ∧ Dt K H v (exD e) ∧ ∀ H', Same H H' → Q (.int (e.lv : Nat)) H'
def spLwP (K : PySem.W.Frag) (d : Nat) : Sp := fun vs H Q _ => ∃ (v : V) (e : Ex) (l : Nat), vs = [v, .int (l : Nat)] ∧ Dt K H v (exD e) ∧ exL e ∧ e.dp < d ∧ (pE e).length ≤ 2000000 ∧ ∀ H', Same H H' → Q (.str (S (pO e l))) H'
section
variable {P : Program} {w : World} {K : PySem.W.Frag} {mg : Str → Option Value} {base : Heap}
theorem ok_law_level (A : All K mg) : Cal P w K mg base 1 "_law_level" (spLLv K) := by
  refine cal_of A.d_law_level sc_law_level (fun _ _ _ _ _ _ us hl => match us, hl with | [_], _ => rfl) (fun vs H Q E h => ?_) (fun f cdv A' outer s H vs Q E hr h => ?_)
  · obtain ⟨v, e, rfl, _⟩ := h
    rfl
  · obtain ⟨v, e, rfl, hd, k⟩ := h
    refine ⟨_, (pss_cons (ps_if (pt_cmpR op_ne (pe_ix (k_ixT (K := K) rfl) (pv 0) pe_int (fun _ _ => rfl)) pe_str (nomark _)) (pss_one (ps_ret pe_int)) pss_nil)
 (pss_one (ps_ret (pe_ifExp (pt_cmpR (k_in (K := K) rfl) (pe_ix (k_ixT (K := K) rfl) (pv 0) pe_int (fun _ _ => rfl)) (pe_tup (pa_cons pe_str (pa_cons pe_str pa_nil))) (by rfl)) pe_int pe_int)))), ?_⟩
    have st : Stt [] H [] [] H := Stt.init H
    obtain ⟨a, xs, fm, rfl, t, hf⟩ := ex_form hd
    walk_at "begin"
    refine i_ixT t.sq atI_zero ?_
    walk_at "go"
    by_cases hb : ∃ o l r, e = .bin o l r
    · obtain ⟨o, l, r, rfl⟩ := hb
      subst hf
      refine ifF (show (!decide (("binary" : Str) = "binary")) = false by decide +kernel) ?_
      refine i_next ?_
      obtain ⟨a', x, y, z, ea, t', d1, d2, d3⟩ := ex_inv4 hd
      cases ea
      obtain rfl := dt_str d1
      walk_at "go"
      refine i_ixT t'.sq (v := .str o.s) rfl ?_
      walk_at "go"
      refine st_newT K st (by simp) fun p np st => ?_
      have hp : TupAt K (upd H p (.tup [V.str "+", V.str "-"])) p ((["+", "-"] : List Str).map V.str) := st.pers 0 rfl
      refine i_inTs hp.sq ?_
      have ho : decide (o.s ∈ (["+", "-"] : List Str)) = decide (o.lv = 1) := by cases o <;> decide +kernel
      rw [if_neg (show ¬ (false = true) by decide), ho]
      refine i_bl ?_
      have hl : o.lv = 1 ∨ o.lv = 2 := by cases o <;> simp [Op.lv]
      have k : ∀ H', Same H H' → Q (.int (o.lv : Nat)) H' := fun H' e => k H' e
      rcases hl with ho | ho
      · refine ifT (by rw [ho]; rfl) ?_
        walk_at "go"
        have := k _ st.same
        rw [ho] at this
        exact this
      · refine ifF (by rw [ho]; rfl) ?_
        walk_at "go"
        have := k _ st.same
        rw [ho] at this
        exact this
    · have h3 : e.lv = 3 := by
        cases e with
        | bin o l r => exact absurd ⟨o, l, r, rfl⟩ hb
        | _ => rfl
      have hne : (!decide (fm = "binary")) = true := by
        cases e with
        | bin o l r => exact absurd ⟨o, l, r, rfl⟩ hb
        | num n => subst hf; exact (show (!decide (("number" : Str) = "binary")) = true by decide +kernel)
        | name s => subst hf; exact (show (!decide (("name" : Str) = "binary")) = true by decide +kernel)
        | neg e => subst hf; exact (show (!decide (("negative" : Str) = "binary")) = true by decide +kernel)
        | queue e => subst hf; exact (show (!decide (("queue" : Str) = "binary")) = true by decide +kernel)
        | fin p => subst hf; exact (show (!decide (("finished" : Str) = "binary")) = true by decide +kernel)
        | next => subst hf; exact (show (!decide (("next" : Str) = "binary")) = true by decide +kernel)
      refine ifT hne ?_
      walk_at "go"
      have := k _ st.same
      rw [h3] at this
      exact this
set_option maxHeartbeats 0 in
theorem ok_law_print1 (A : All K mg) {d lv : Nat} (hlv : 1 ≤ lv) (c_law_level : Cal P w K mg base 1 "_law_level" (spLLv K)) (c_law_print : Cal P w K mg base lv "_law_print" (spLwP K d)) : Cal P w K mg base (lv + 1) "_law_print" (spLwP K (d + 1)) := by
    refine cal_of A.d_law_print sc_law_print (fun _ _ _ _ _ _ us hl => match us, hl with | [_, _], _ => rfl) (fun vs H Q E h => ?_) (fun f cdv A' outer s H0 vs Q E hr h => ?_)
    · obtain ⟨v, e, l, rfl, _⟩ := h
      rfl
    · obtain ⟨v, e, lev, rfl, hd0, hL, hdp, hlen, k⟩ := h
      have hd := hd0
      refine ⟨_, (pss_cons (ps_set (i := 2) sc_law_print.nd rfl (Or.inl rfl) (pe_ix (k_ixT (K := K) rfl) (pv 0) pe_int (fun _ _ => rfl)))
 (pss_cons (ps_if (pt_cmpR op_eq (pv 2) pe_str (nomark _)) (pss_one (ps_set (i := 3) sc_law_print.nd rfl (Or.inl rfl) (pe_callTy (T := "str") call_str_int (by rfl) A.b_str (by decide +kernel) (pa_cons (pe_ix (k_ixT (K := K) rfl) (pv 0) pe_int (fun _ _ => rfl)) pa_nil)))) (pss_one (ps_if (pt_cmpR op_eq (pv 2) pe_str (nomark _)) (pss_one (ps_set (i := 3) sc_law_print.nd rfl (Or.inl rfl) (pe_ix (k_ixT (K := K) rfl) (pv 0) pe_int (fun _ _ => rfl)))) (pss_one (ps_if (pt_cmpR op_eq (pv 2) pe_str (nomark _)) (pss_one (ps_set (i := 3) sc_law_print.nd rfl (Or.inl rfl) pe_str)) (pss_one (ps_if (pt_cmpR op_eq (pv 2) pe_str (nomark _)) (pss_one (ps_set (i := 3) sc_law_print.nd rfl (Or.inl rfl) (pe_op op_add_str pe_str (pc c_law_print hr (by omega) (pa_cons (pe_ix (k_ixT (K := K) rfl) (pv 0) pe_int (fun _ _ => rfl)) (pa_cons pe_int pa_nil)))))) (pss_one (ps_if (pt_cmpR op_eq (pv 2) pe_str (nomark _)) (pss_cons (ps_set (i := 4) sc_law_print.nd rfl (Or.inl rfl) (pc c_law_level hr (by omega) (pa_cons (pv 0) pa_nil)))
 (pss_one (ps_set (i := 3) sc_law_print.nd rfl (Or.inl rfl) (pe_op op_add_str (pe_op op_add_str (pe_op op_add_str (pe_op op_add_str (pc c_law_print hr (by omega) (pa_cons (pe_ix (k_ixT (K := K) rfl) (pv 0) pe_int (fun _ _ => rfl)) (pa_cons (pv 4) pa_nil))) pe_str) (pe_ix (k_ixT (K := K) rfl) (pv 0) pe_int (fun _ _ => rfl))) pe_str) (pc c_law_print hr (by omega) (pa_cons (pe_ix (k_ixT (K := K) rfl) (pv 0) pe_int (fun _ _ => rfl)) (pa_cons (pe_op op_add (pv 4) pe_int) pa_nil))))))) (pss_one (ps_if (pt_cmpR op_eq (pv 2) pe_str (nomark _)) (pss_one (ps_set (i := 3) sc_law_print.nd rfl (Or.inl rfl) (pe_op op_add_str (pe_op op_add_str pe_str (pe_ix (k_ixT (K := K) rfl) (pv 0) pe_int (fun _ _ => rfl))) pe_str))) (pss_one (ps_set (i := 3) sc_law_print.nd rfl (Or.inl rfl) (pe_op op_add_str (pe_op op_add_str pe_str (pc c_law_print hr (by omega) (pa_cons (pe_ix (k_ixT (K := K) rfl) (pv 0) pe_int (fun _ _ => rfl)) (pa_cons pe_int pa_nil)))) pe_str))))))))))))))
 (pss_one (ps_ret (pe_ifExp (pt_cmpR op_ge (pc c_law_level hr (by omega) (pa_cons (pv 0) pa_nil)) (pv 1) (nomark _)) (pv 3) (pe_op op_add_str (pe_op op_add_str pe_str (pv 3)) pe_str)))))), ?_⟩
      have sub : ∀ e' : Ex, (∃ o r, e = .bin o e' r) ∨ (∃ o l, e = .bin o l e') ∨ e = .neg e' ∨ e = .queue e' → e'.dp < d := fun e' h => by
        rcases h with ⟨o, r, rfl⟩ | ⟨o, l, rfl⟩ | rfl | rfl
        · have : (Ex.bin o e' r).dp = max e'.dp r.dp + 1 := rfl
          omega
        · have : (Ex.bin o l e').dp = max l.dp e'.dp + 1 := rfl
          omega
        · have : (Ex.neg e').dp = e'.dp + 1 := rfl
          omega
        · have : (Ex.queue e').dp = e'.dp + 1 := rfl
          omega
      (try (dsimp only [L2.cxOf, L2.Cx.nox, L2.Cx.wish, L2.Cx.blk]))
      obtain ⟨a0, xs0, fm, rfl, t0, hf⟩ := ex_form hd
      refine i_seq (i_asg ?_)
      walk_at "go"
      refine i_ixT t0.sq atI_zero ?_
      refine i_join (fun σ' H' => ∃ x4, σ' = [some (.ref a0), some (.int (lev : Nat)), some (.str fm), some (.str (S (pE e))), x4] ∧ Same H0 H') (fun N J => ?_) ?_
      · cases e with
        | num n =>
          obtain ⟨a, x, ea, t, d1⟩ := ex_inv2 hd
          cases ea
          obtain rfl := dt_int d1
          subst hf
          walk_at "go"
          refine ifT (show decide (("number" : Str) = "number") = true by decide +kernel) ?_
          walk_at "go"
          refine i_ixT t.sq (v := .int (n : Nat)) rfl ?_
          refine ⟨_, rfl, num_log hL, ?_⟩
          rw [num_S']
          exact J _ _ ⟨_, rfl, Same.refl _⟩
        | name z =>
          obtain ⟨a, x, ea, t, d1⟩ := ex_inv2 hd
          cases ea
          obtain rfl := dt_str d1
          subst hf
          walk_at "go"
          refine ifF (show decide (("name" : Str) = "number") = false by decide +kernel) ?_
          walk_at "go"
          refine ifT (show decide (("name" : Str) = "name") = true by decide +kernel) ?_
          walk_at "go"
          refine i_ixT t.sq (v := .str z) rfl ?_
          walk_at "go"
          exact J _ _ ⟨_, by rw [show pE (.name z) = cs z from rfl, S_cs]; rfl, Same.refl _⟩
        | next =>
          obtain ⟨a, ea, t⟩ := ex_inv1 hd
          cases ea
          subst hf
          walk_at "go"
          refine ifF (show decide (("next" : Str) = "number") = false by decide +kernel) ?_
          walk_at "go"
          refine ifF (show decide (("next" : Str) = "name") = false by decide +kernel) ?_
          walk_at "go"
          refine ifT (show decide (("next" : Str) = "next") = true by decide +kernel) ?_
          walk_at "go"
          exact J _ _ ⟨_, by rw [show pE .next = cs "next" from rfl, S_cs]; rfl, Same.refl _⟩
        | neg e =>
          obtain ⟨a, x, ea, t, d1⟩ := ex_inv2 hd
          cases ea
          subst hf
          walk_at "go"
          refine ifF (show decide (("negative" : Str) = "number") = false by decide +kernel) ?_
          walk_at "go"
          refine ifF (show decide (("negative" : Str) = "name") = false by decide +kernel) ?_
          walk_at "go"
          refine ifF (show decide (("negative" : Str) = "next") = false by decide +kernel) ?_
          walk_at "go"
          refine ifT (show decide (("negative" : Str) = "negative") = true by decide +kernel) ?_
          walk_at "go"
          have hlen' : (parL (decide (e.lv < 3)) (pE e)).length + 1 ≤ 2000000 := hlen
          have hpl := parL_le (decide (e.lv < 3)) (pE e)
          refine i_ixT t.sq (v := x) rfl ?_
          walk_at "go"
          refine ⟨x, e, 3, rfl, d1, hL, sub e (by simp), by omega, fun H1 s1 => ?_⟩
          rw [z_min]
          refine i_addB (by show ([45] : List Nat).length + (parL (decide (e.lv < 3)) (pE e)).length ≤ _; simp only [List.length_cons, List.length_nil, List.length_append]; omega) ?_
          rw [S_app]
          walk_at "go"
          exact J _ _ ⟨_, rfl, s1⟩
        | bin o l r =>
          obtain ⟨a, x, y, z, ea, t, d1, d2, d3⟩ := ex_inv4 hd
          cases ea
          obtain rfl := dt_str d1
          subst hf
          walk_at "go"
          refine ifF (show decide (("binary" : Str) = "number") = false by decide +kernel) ?_
          walk_at "go"
          refine ifF (show decide (("binary" : Str) = "name") = false by decide +kernel) ?_
          walk_at "go"
          refine ifF (show decide (("binary" : Str) = "next") = false by decide +kernel) ?_
          walk_at "go"
          refine ifF (show decide (("binary" : Str) = "negative") = false by decide +kernel) ?_
          walk_at "go"
          refine ifT (show decide (("binary" : Str) = "binary") = true by decide +kernel) ?_
          walk_at "go"
          have hlen' := hlen
          rw [pE] at hlen'
          simp only [List.length_append, List.length_cons] at hlen'
          have h1 := parL_le (decide (l.lv < o.lv)) (pE l)
          have h2 := parL_le (decide (r.lv < o.lv + 1)) (pE r)
          refine ⟨_, .bin o l r, rfl, hd, fun H1 s1 => ?_⟩
          walk_at "go"
          have t1 := t.keep (TK.same s1)
          refine i_ixT t1.sq (v := y) rfl ?_
          walk_at "go"
          refine ⟨y, l, o.lv, rfl, d2.keep_of (TK.same s1), hL.1, sub l (by simp), by omega, fun H2 s2 => ?_⟩
          rw [z_spc]
          have eL : (pO l o.lv).length = (parL (decide (l.lv < o.lv)) (pE l)).length := rfl
          have eR : (pO r (o.lv + 1)).length = (parL (decide (r.lv < o.lv + 1)) (pE r)).length := rfl
          have t2 := t1.keep (TK.same s2)
          walk_at "go"
          refine i_addB (by rw [eL]; simp only [List.length_cons, List.length_nil, List.length_append]; omega) ?_
          rw [S_app]
          walk_at "go"
          refine i_ixT t2.sq (v := .str o.s) rfl ?_
          rw [← S_cs o.s]
          refine i_addB (by rw [List.length_append, eL]; simp only [List.length_cons, List.length_nil, List.length_append]; omega) ?_
          rw [S_app]
          walk_at "go"
          refine i_addB (by rw [List.length_append, List.length_append, eL]; simp only [List.length_cons, List.length_nil, List.length_append]; omega) ?_
          rw [S_app]
          walk_at "go"
          refine i_ixT t2.sq (v := z) rfl ?_
          walk_at "go"
          refine ⟨z, r, o.lv + 1, rfl, (d3.keep_of (TK.same s1)).keep_of (TK.same s2), hL.2, sub r (by simp), by omega, fun H3 s3 => ?_⟩
          refine i_addB (by rw [List.length_append, List.length_append, List.length_append, eL, eR]; simp only [List.length_cons, List.length_nil, List.length_append]; omega) ?_
          rw [S_app]
          have e2 : pO l o.lv ++ [32] ++ cs o.s ++ [32] ++ pO r (o.lv + 1) = pE (.bin o l r) := by rw [pE]; simp [pO]
          rw [e2]
          walk_at "go"
          exact J _ _ ⟨_, rfl, (s1.trans s2).trans s3⟩
        | fin p =>
          obtain ⟨a, x, ea, t, d1⟩ := ex_inv2 hd
          cases ea
          obtain rfl := dt_str d1
          subst hf
          walk_at "go"
          refine ifF (show decide (("finished" : Str) = "number") = false by decide +kernel) ?_
          walk_at "go"
          refine ifF (show decide (("finished" : Str) = "name") = false by decide +kernel) ?_
          walk_at "go"
          refine ifF (show decide (("finished" : Str) = "next") = false by decide +kernel) ?_
          walk_at "go"
          refine ifF (show decide (("finished" : Str) = "negative") = false by decide +kernel) ?_
          walk_at "go"
          refine ifF (show decide (("finished" : Str) = "binary") = false by decide +kernel) ?_
          walk_at "go"
          refine ifT (show decide (("finished" : Str) = "finished") = true by decide +kernel) ?_
          walk_at "go"
          have hlen' := hlen
          rw [pE] at hlen'
          simp only [List.length_append, List.length_cons, List.length_nil] at hlen'
          have eql : (cs "finished(").length = 9 := by decide +kernel
          have eqf : cs "finished(" = cs "finished" ++ [40] := by decide +kernel
          refine i_ixT t.sq (v := .str p) rfl ?_
          rw [← S_cs "finished(", ← S_cs p]
          have eql2 : (cs "finished").length = 8 := by decide +kernel
          refine i_addB (by rw [eql]; omega) ?_
          rw [S_app]
          walk_at "go"
          rw [z_rp]
          refine i_addB (by rw [List.length_append, eql]; simp only [List.length_cons, List.length_nil]; omega) ?_
          rw [S_app]
          have e2 : cs "finished(" ++ cs p ++ [41] = pE (.fin p) := by rw [pE, eqf]; simp
          rw [e2]
          walk_at "go"
          exact J _ _ ⟨_, by rw [S_cs]; rfl, Same.refl _⟩
        | queue e =>
          obtain ⟨a, x, ea, t, d1⟩ := ex_inv2 hd
          cases ea
          subst hf
          walk_at "go"
          refine ifF (show decide (("queue" : Str) = "number") = false by decide +kernel) ?_
          walk_at "go"
          refine ifF (show decide (("queue" : Str) = "name") = false by decide +kernel) ?_
          walk_at "go"
          refine ifF (show decide (("queue" : Str) = "next") = false by decide +kernel) ?_
          walk_at "go"
          refine ifF (show decide (("queue" : Str) = "negative") = false by decide +kernel) ?_
          walk_at "go"
          refine ifF (show decide (("queue" : Str) = "binary") = false by decide +kernel) ?_
          walk_at "go"
          refine ifF (show decide (("queue" : Str) = "finished") = false by decide +kernel) ?_
          walk_at "go"
          have hlen' := hlen
          rw [pE] at hlen'
          simp only [List.length_append, List.length_cons, List.length_nil] at hlen'
          have eql : (cs "queue(").length = 6 := by decide +kernel
          have eqf : cs "queue(" = cs "queue" ++ [40] := by decide +kernel
          refine i_ixT t.sq (v := x) rfl ?_
          walk_at "go"
          refine ⟨x, e, 1, rfl, d1, hL, sub e (by simp), by omega, fun H1 s1 => ?_⟩
          have e1 : pO e 1 = pE e := by
            have : 1 ≤ e.lv := by cases e <;> simp [Ex.lv]; rename_i o _ _; cases o <;> simp [Op.lv]
            unfold pO
            rw [decide_eq_false (by omega)]
            rfl
          rw [e1, ← S_cs "queue("]
          refine i_addB (by rw [eql]; omega) ?_
          rw [S_app]
          walk_at "go"
          rw [z_rp]
          refine i_addB (by rw [List.length_append, eql]; simp only [List.length_cons, List.length_nil]; omega) ?_
          rw [S_app]
          have e2 : cs "queue(" ++ pE e ++ [41] = pE (.queue e) := by rw [pE, eqf]; simp
          rw [e2]
          walk_at "go"
          exact J _ _ ⟨_, rfl, s1⟩
      · rintro σ H ⟨x4, rfl, s1⟩
        walk_at "go"
        refine ⟨_, e, rfl, hd0.keep_of (TK.same s1), fun H2 s2 => ?_⟩
        have k := k H2 (s1.trans s2)
        unfold pO parL at k
        walk_at "go"
        by_cases h : e.lv < lev
        · rw [decide_eq_true h] at k
          refine ifF (decide_eq_false (by omega)) ?_
          walk_at "go"
          rw [z_lp, z_rp]
          refine i_addB (by simp only [List.length_cons, List.length_nil]; omega) ?_
          walk_at "go"
          rw [S_app]
          refine i_addB (by simp only [List.length_cons, List.length_nil, List.length_append]; omega) ?_
          rw [S_app]
          exact k
        · rw [decide_eq_false h] at k
          refine ifT (decide_eq_true (by omega)) ?_
          walk_at "go"
          exact k
theorem ok_law_print (A : All K mg) : ∀ d, Cal P w K mg base (d + 1) "_law_print" (spLwP K d) := by
  have c_law_level := ok_law_level (P := P) (w := w) (base := base) A
  intro d
  induction d with
  | zero =>
    refine cal_of A.d_law_print sc_law_print (fun _ _ _ _ _ _ us hl => match us, hl with | [_, _], _ => rfl) (fun vs H Q E h => ?_) (fun f cdv A' outer s H vs Q E hr h => ?_)
    · obtain ⟨v, e, l, rfl, _⟩ := h
      rfl
    · obtain ⟨v, e, l, rfl, _, _, h, _⟩ := h
      exact absurd h (Nat.not_lt_zero _)
  | succ d ih => exact ok_law_print1 A (by omega) c_law_level ih
end
end Fb
namespace Fb
open PySem PySem.Spec PyProof.Rows L2 PySem.HandSPX
def rRepS1 : R2 := fun x y H Q => ∃ (z : Str) (n : Int), x = .str z ∧ y = .int n ∧ ((n = 0 ∧ Q (.str "") H) ∨ (n = 1 ∧ Q (.str z) H))
theorem op_repS {X : Cx} : OpR X (binaryOp .Mult) rRepS1 := by
  intro pins s σ H x y v u Q I rx ry h
  obtain ⟨z, n, rfl, rfl, h⟩ := h
  obtain ⟨t, rfl⟩ := rx
  obtain ⟨t', rfl⟩ := ry
  rcases h with ⟨rfl, q⟩ | ⟨rfl, q⟩
  · exact P.mul_str_none (by decide) (by decide) ⟨.str "", H, I.tok _, ⟨_, rfl⟩, q⟩
  · refine P.mul_str (by decide) (fun _ h => absurd h (by simp)) (fun _ h => absurd h (by simp)) ?_
    rw [if_neg (by decide), if_pos (by simp)]
    exact ⟨.str z, H, I, ⟨_, rfl⟩, q⟩
end Fb
namespace Fb
open PySem PySem.Spec PyProof.Rows L2 PySem.HandSPX SX
abbrev inD (ind : List Nat) (ls : List (List Nat)) : List (List Nat) := ls.map fun l => ind ++ l
def isCo : Sm → Prop
  | .rep _ _ => True
  | .ite _ _ _ _ _ => True
  | _ => False
def spLwC (K : PySem.W.Frag) (D d : Nat) : Sp := fun vs H Q _ => ∃ (v : V) (s : Sm) (ind : List Nat), vs = [v, .str (S ind)] ∧ Dt K H v (smD s) ∧ isCo s ∧ smL s ∧ smW D d s ∧ LnB 2000000 2000000 (pS s) ∧ ind.length + 2 * d ≤ 1000 ∧ ∀ p H', H p = none → Same H H' → H' p = some (.lst (lnV (inD ind (pS s)))) → Q (.ref p) H'
def spLwL (K : PySem.W.Frag) (D d : Nat) : Sp := fun vs H Q _ => ∃ (v : V) (b : List Sm) (ind : List Nat), vs = [v, .str (S ind)] ∧ Dt K H v (blkD b) ∧ blL b ∧ (∀ s ∈ b, smW D d s) ∧ LnB 2000000 2000000 (pB b) ∧ ind.length + 2 * d ≤ 1000 ∧ ∀ p H', H p = none → Same H H' → H' p = some (.lst (lnV (inD ind (pB b)))) → Q (.ref p) H'
theorem pO1 (e : Ex) : pO e 1 = pE e := by
  have : 1 ≤ e.lv := by
    cases e <;> simp [Ex.lv]
    rename_i o _ _
    cases o <;> simp [Op.lv]
  unfold pO
  rw [decide_eq_false (by omega)]
  rfl
theorem kw_co (k : Kw) : decide (k.s ∈ (["repeat", "if"] : List Str)) = false := by cases k <;> decide +kernel
section
variable {P : Program} {w : World} {K : PySem.W.Frag} {mg : Str → Option Value} {base : Heap}
set_option maxHeartbeats 0 in
theorem ok_law_lines (A : All K mg) {D d lv : Nat} (hlv : 1 ≤ lv) (c_law_print : Cal P w K mg base lv "_law_print" (spLwP K (D + 1))) (c_law_compound : Cal P w K mg base lv "_law_compound" (spLwC K D d)) : Cal P w K mg base (lv + 1) "_law_lines" (spLwL K D d) := by
  refine cal_of A.d_law_lines sc_law_lines (fun _ _ _ _ _ _ us hl => match us, hl with | [_, _], _ => rfl) (fun vs H Q E h => ?_) (fun f cdv A' outer s0 H0 vs Q E hr h => ?_)
  · obtain ⟨v, b, ind, rfl, _⟩ := h
    rfl
  · obtain ⟨v, b, ind, rfl, hd, hL, hW, hB, hi, k⟩ := h
    refine ⟨_, (pss_cons (ps_set (i := 2) sc_law_lines.nd rfl (Or.inl rfl) (pe_lst pa_nil))
 (pss_cons (ps_for PassesOwn.never rfl (k_pt (K := K) rfl (pv 0)) (pg_name (i := 3) sc_law_lines.nd rfl (Or.inl rfl))
 (pss_cons (ps_set (i := 4) sc_law_lines.nd rfl (Or.inl rfl) (pe_ix (k_ixT (K := K) rfl) (pv 3) pe_int (fun _ _ => rfl)))
 (pss_one (ps_if (pt_cmpR op_eq (pv 4) pe_str (nomark _)) (pss_cons (ps_set (i := 5) sc_law_lines.nd rfl (Or.inl rfl) (pe_op op_add_str (pe_op op_add_str pe_str (pe_ix (k_ixT (K := K) rfl) (pv 3) pe_int (fun _ _ => rfl))) pe_str))
 (pss_one (ps_expr (pe_bm PySem.F.plainAttrs_list PySem.F.slot_list_append PySem.F.type_list_append mt_append (pv 2) (pa_cons (pe_op op_add_str (pe_op op_add_str (pe_op op_add_str (pv 1) (pv 5)) (pc c_law_print hr (by omega) (pa_cons (pe_ix (k_ixT (K := K) rfl) (pv 3) pe_int (fun _ _ => rfl)) (pa_cons pe_int pa_nil)))) pe_str) pa_nil))))) (pss_one (ps_if (pt_cmpR op_eq (pv 4) pe_str (nomark _)) (pss_cons (ps_set (i := 6) sc_law_lines.nd rfl (Or.inl rfl) (pe_ifExp (pt_cmpR op_eq (pe_ix (k_ixT (K := K) rfl) (pe_ix (k_ixT (K := K) rfl) (pv 3) pe_int (fun _ _ => rfl)) pe_int (fun _ _ => rfl)) pe_str (nomark _)) (pe_ix (k_ixT (K := K) rfl) (pe_ix (k_ixT (K := K) rfl) (pv 3) pe_int (fun _ _ => rfl)) pe_int (fun _ _ => rfl)) (pc c_law_print hr (by omega) (pa_cons (pe_ix (k_ixT (K := K) rfl) (pe_ix (k_ixT (K := K) rfl) (pv 3) pe_int (fun _ _ => rfl)) pe_int (fun _ _ => rfl)) (pa_cons pe_int pa_nil)))))
 (pss_cons (ps_set (i := 5) sc_law_lines.nd rfl (Or.inl rfl) (pe_op op_add_str (pe_op op_add_str (pe_op op_add_str (pe_op op_add_str pe_str (pc c_law_print hr (by omega) (pa_cons (pe_ix (k_ixT (K := K) rfl) (pv 3) pe_int (fun _ _ => rfl)) (pa_cons pe_int pa_nil)))) pe_str) (pc c_law_print hr (by omega) (pa_cons (pe_ix (k_ixT (K := K) rfl) (pv 3) pe_int (fun _ _ => rfl)) (pa_cons pe_int pa_nil)))) pe_str))
 (pss_one (ps_expr (pe_bm PySem.F.plainAttrs_list PySem.F.slot_list_append PySem.F.type_list_append mt_append (pv 2) (pa_cons (pe_op op_add_str (pe_op op_add_str (pe_op op_add_str (pe_op op_add_str (pe_op op_add_str (pv 1) (pv 5)) (pe_ix (k_ixT (K := K) rfl) (pe_ix (k_ixT (K := K) rfl) (pv 3) pe_int (fun _ _ => rfl)) pe_int (fun _ _ => rfl))) pe_str) (pv 6)) pe_str) pa_nil)))))) (pss_one (ps_if (pt_cmpR (k_in (K := K) rfl) (pv 4) (pe_tup (pa_cons pe_str (pa_cons pe_str pa_nil))) (by rfl)) (pss_one (ps_set (i := 2) sc_law_lines.nd rfl (Or.inl rfl) (pe_op op_cat (pv 2) (pc c_law_compound hr (by omega) (pa_cons (pv 3) (pa_cons (pv 1) pa_nil)))))) (pss_one (ps_expr (pe_bm PySem.F.plainAttrs_list PySem.F.slot_list_append PySem.F.type_list_append mt_append (pv 2) (pa_cons (pe_op op_add_str (pe_op op_add_str (pe_op op_add_str (pe_op op_add_str (pv 1) (pv 4)) pe_str) (pc c_law_print hr (by omega) (pa_cons (pe_ix (k_ixT (K := K) rfl) (pv 3) pe_int (fun _ _ => rfl)) (pa_cons pe_int pa_nil)))) pe_str) pa_nil))))))))))))
 (pss_one (ps_ret (pv 2))))), ?_⟩
    have st : Stt [] H0 [] [] H0 := Stt.init H0
    obtain ⟨a, xs, rfl, ta, da⟩ := hd.tup_inv
    rw [smsD_map] at da
    have hxl : xs.length = b.length := by rw [da.len, List.length_map]
    walk_at "begin"
    refine st_newLB st (by simp) fun p np st => ?_
    walk_at "go"
    refine ⟨a, rfl, ⟨_, (ta.keep st.tk).sq⟩, ForIt.go (walk_tup (xs := xs)) (fun j σ H => ∃ p s3 s4 s5 s6, σ = [some (.ref a), some (.str (S ind)), some (.ref p), s3, s4, s5, s6] ∧ H0 p = none ∧ Stt [] H0 [(p, .lst (lnV (inD ind (pB (b.take j)))))] [] H) ⟨_, _, _, _, _, rfl, np, (show Stt [] H0 [(p, .lst [])] [] _ from st)⟩ (fun j σ H _ q => ?_) ?_ ?_⟩
    · obtain ⟨_, _, _, _, _, _, _, st⟩ := q
      exact (ta.keep st.tk).sq
    · rintro j x σ H H' hj ⟨p, s3, s4, s5, s6, rfl, np, st⟩ ⟨rfl, hx⟩
      have hx : xs[j]? = some x := hx
      obtain ⟨dd, e1, dx⟩ := da.get hx
      rw [List.getElem?_map] at e1
      obtain ⟨s, es, rfl⟩ : ∃ s, b[j]? = some s ∧ smD s = dd := by
        cases q : b[j]? with
        | none => rw [q] at e1; cases e1
        | some s => rw [q] at e1; exact ⟨s, rfl, Option.some.inj e1⟩
      have hm := List.mem_of_getElem? es
      have hsub := pB_sub hB s hm
      have hsL := blL_mem.mp hL s hm
      have hsW := hW s hm
      have hd := dx.keep_of st.tk
      have et : b.take (j + 1) = b.take j ++ [s] := by rw [List.take_succ, es]; rfl
      have hle : (pB (b.take j)).length + (pS s).length ≤ 2000000 := by
        have h1 : (pB b).length = (pB (b.take (j + 1))).length + (pB (b.drop (j + 1))).length := by
          rw [← List.length_append, ← pB_append, List.take_append_drop]
        rw [et, pB_append, List.length_append, pB, pB, List.append_nil] at h1
        have := hB.1
        omega
      rw [et, pB_append, show pB [s] = pS s by rw [pB, pB, List.append_nil]]
      rw [show lnV (inD ind (pB (b.take j) ++ pS s)) = lnV (inD ind (pB (b.take j))) ++ lnV (inD ind (pS s)) by simp [lnV, inD]]
      have hlen : (lnV (inD ind (pB (b.take j)))).length = (pB (b.take j)).length := by simp
      generalize lnV (inD ind (pB (b.take j))) = LL at st hlen
      have app : ∀ {z : List Nat} {l : List Nat} {N : VK} {H : Hp}, pS s = [l] → z = ind ++ l → Stt [] H0 [(p, .lst LL)] [] H → (∀ H', Stt [] H0 [(p, .lst (LL ++ lnV (inD ind (pS s))))] [] H' → N .non H') → rAppend (.ref p) [.str (S z)] H N := by
        intro z l N H e1 e2 st kk
        refine st_appendB st 0 rfl (by rw [hlen]; have : (pS s).length = 1 := by rw [e1]; rfl
                                       omega) fun H' st => ?_
        refine kk H' ?_
        subst e2
        rw [e1]
        exact st
      cases s with

      | asg z e =>
      rw [smL] at hsL
      rw [smD] at hd
      obtain ⟨⟨h1, h1'⟩, h2⟩ := hsL
      obtain ⟨d', rfl⟩ : ∃ q, d = q + 1 := by
        cases d with
        | zero => exact hsW.elim
        | succ d => exact ⟨d, rfl⟩
      obtain ⟨w1, w2, w3⟩ := hsW
      obtain ⟨a1, x0, y, rfl, t, d1, d2⟩ := ex_inv3 hd
      obtain rfl := dt_str d1
      have el : (cs "let").length = 3 := by decide +kernel
      have hl := hsub.len1
      rw [List.length_append, el] at hl
      simp only [List.length_append, List.length_cons, List.length_nil] at hl
      have l0 : (cs "let ").length = 4 := by decide +kernel
      have l1 : (cs " = ").length = 3 := by decide +kernel
      have l2 : (cs ";").length = 1 := by decide +kernel
      walk_at "go"
      refine i_ixT t.sq (v := .str "let") rfl ?_
      walk_at "go"
      refine ifT (decide_eq_true rfl) ?_
      walk_at "go"
      refine i_ixT t.sq (v := .str z) rfl ?_
      refine i_addA (by simp only [cs_S, List.length_append, l0, l1, l2]; omega) ?_
      rw [app_cs]
      walk_at "go"
      refine i_addA (by simp only [cs_S, List.length_append, l0, l1, l2]; omega) ?_
      rw [app_cs]
      walk_at "go"
      refine i_tyL (st.sqL 0 rfl) ?_
      walk_at "go"
      refine i_addA (by simp only [cs_S, List.length_append, l0, l1, l2]; omega) ?_
      rw [app_cs]
      walk_at "go"
      refine i_ixT t.sq (v := y) rfl ?_
      walk_at "go"
      refine ⟨y, e, 1, rfl, d2, h2, Nat.lt_succ_of_le w3, by omega, fun H9 s9 => ?_⟩
      have st := st.ext s9
      rw [pO1]
      refine i_addA (by simp only [cs_S, List.length_append, l0, l1, l2]; omega) ?_
      rw [app_cs]
      walk_at "go"
      refine i_addA (by simp only [cs_S, List.length_append, l0, l1, l2]; omega) ?_
      rw [app_cs]
      walk_at "go"
      refine app (l := cs "let" ++ 32 :: (cs z ++ 32 :: 61 :: 32 :: (pE e ++ [59]))) (by rw [pS]) ?_ st fun H2 st => ?_
      · simp only [cs_S]
        rw [show cs "let " = cs "let" ++ [32] by decide +kernel, show cs " = " = [32, 61, 32] by decide +kernel, show cs ";" = [59] by decide +kernel]
        simp
      · walk_at "go"
        exact ⟨_, _, _, _, _, rfl, np, st⟩
      | link ea eb tg =>
        cases tg with
        | port q =>
          rw [smL] at hsL
          rw [smD] at hd
          obtain ⟨h1, h2, h3⟩ := hsL
          obtain ⟨d', rfl⟩ : ∃ q, d = q + 1 := by
            cases d with
            | zero => exact hsW.elim
            | succ d => exact ⟨d, rfl⟩
          obtain ⟨w1, w2, w3⟩ := hsW
          obtain ⟨a1, x0, y, z, rfl, t, d1, d2, d3⟩ := ex_inv4 hd
          have el : (cs "link").length = 4 := by decide +kernel
          have hl := hsub.len1
          rw [List.length_append, el] at hl
          simp only [List.length_append, List.length_cons, List.length_nil] at hl
          have l0 : (cs "link ").length = 5 := by decide +kernel
          have l1 : (cs ", ").length = 2 := by decide +kernel
          have l2 : (cs "port").length = 4 := by decide +kernel
          have l3 : (cs " ").length = 1 := by decide +kernel
          have l4 : (cs ";").length = 1 := by decide +kernel
          have l5 : (cs "station").length = 7 := by decide +kernel
          obtain ⟨a2, x2, rfl, t2, d4⟩ := ex_inv2 d3
          obtain rfl := dt_str d4
          have el2 : (pT (.port q)).length = 4 + ((cs q).length + 1) := by rw [pT, List.length_append, l2, List.length_cons]
          walk_at "go"
          refine i_ixT t.sq (v := .str "link") rfl ?_
          walk_at "go"
          refine ifF (bool_ff (by decide +kernel)) ?_
          walk_at "go"
          refine ifT (decide_eq_true rfl) ?_
          walk_at "go"
          refine i_ixT t.sq (v := .ref a2) rfl ?_
          walk_at "go"
          refine i_ixT t2.sq (v := .str "port") rfl ?_
          walk_at "go"
          refine ifT (decide_eq_true rfl) ?_
          walk_at "go"
          refine i_ixT t.sq (v := .ref a2) rfl ?_
          walk_at "go"
          refine i_ixT t2.sq (v := .str q) rfl ?_
          walk_at "go"
          refine i_ixT t.sq (v := x0) rfl ?_
          walk_at "go"
          refine ⟨x0, ea, 1, rfl, d1, h1, Nat.lt_succ_of_le w1.2, by omega, fun H8 s8 => ?_⟩
          have st := st.ext s8
          rw [pO1]
          have t := t.keep (TK.same s8)
          have t2 := t2.keep (TK.same s8)
          have d2 := d2.keep_of (TK.same s8)
          refine i_addA (by simp only [cs_S, List.length_append, l0, l1, l2, l3, l4, l5]; omega) ?_
          rw [app_cs]
          walk_at "go"
          refine i_addA (by simp only [cs_S, List.length_append, l0, l1, l2, l3, l4, l5]; omega) ?_
          rw [app_cs]
          walk_at "go"
          refine i_ixT t.sq (v := y) rfl ?_
          walk_at "go"
          refine ⟨y, eb, 1, rfl, d2, h2, Nat.lt_succ_of_le w2.2, by omega, fun H9 s9 => ?_⟩
          have st := st.ext s9
          rw [pO1]
          have t := t.keep (TK.same s9)
          have t2 := t2.keep (TK.same s9)
          refine i_addA (by simp only [cs_S, List.length_append, l0, l1, l2, l3, l4, l5]; omega) ?_
          rw [app_cs]
          walk_at "go"
          refine i_addA (by simp only [cs_S, List.length_append, l0, l1, l2, l3, l4, l5]; omega) ?_
          rw [app_cs]
          walk_at "go"
          refine i_tyL (st.sqL 0 rfl) ?_
          walk_at "go"
          refine i_addA (by simp only [cs_S, List.length_append, l0, l1, l2, l3, l4, l5]; omega) ?_
          rw [app_cs]
          walk_at "go"
          refine i_ixT t.sq (v := .ref a2) rfl ?_
          walk_at "go"
          refine i_ixT t2.sq (v := .str "port") rfl ?_
          refine i_addA (by simp only [cs_S, List.length_append, l0, l1, l2, l3, l4, l5]; omega) ?_
          rw [app_cs]
          walk_at "go"
          refine i_addA (by simp only [cs_S, List.length_append, l0, l1, l2, l3, l4, l5]; omega) ?_
          rw [app_cs]
          walk_at "go"
          refine i_addA (by simp only [cs_S, List.length_append, l0, l1, l2, l3, l4, l5]; omega) ?_
          rw [app_cs]
          walk_at "go"
          refine i_addA (by simp only [cs_S, List.length_append, l0, l1, l2, l3, l4, l5]; omega) ?_
          rw [app_cs]
          walk_at "go"
          refine app (l := cs "link" ++ 32 :: (pE ea ++ 44 :: 32 :: (pE eb ++ 44 :: 32 :: (pT (.port q) ++ [59])))) (by rw [pS]) ?_ st fun H2 st => ?_
          · simp only [cs_S]
            rw [pT, show cs "link " = cs "link" ++ [32] by decide +kernel, show cs ", " = [44, 32] by decide +kernel, show cs " " = [32] by decide +kernel, show cs ";" = [59] by decide +kernel]
            simp
          · walk_at "go"
            exact ⟨_, _, _, _, _, rfl, np, st⟩
        | station q =>
          rw [smL] at hsL
          rw [smD] at hd
          obtain ⟨h1, h2, h3⟩ := hsL
          obtain ⟨d', rfl⟩ : ∃ q, d = q + 1 := by
            cases d with
            | zero => exact hsW.elim
            | succ d => exact ⟨d, rfl⟩
          obtain ⟨w1, w2, w3⟩ := hsW
          obtain ⟨a1, x0, y, z, rfl, t, d1, d2, d3⟩ := ex_inv4 hd
          have el : (cs "link").length = 4 := by decide +kernel
          have hl := hsub.len1
          rw [List.length_append, el] at hl
          simp only [List.length_append, List.length_cons, List.length_nil] at hl
          have l0 : (cs "link ").length = 5 := by decide +kernel
          have l1 : (cs ", ").length = 2 := by decide +kernel
          have l2 : (cs "port").length = 4 := by decide +kernel
          have l3 : (cs " ").length = 1 := by decide +kernel
          have l4 : (cs ";").length = 1 := by decide +kernel
          have l5 : (cs "station").length = 7 := by decide +kernel
          obtain ⟨a2, x2, rfl, t2, d4⟩ := ex_inv2 d3
          have el2 : (pT (.station q)).length = 7 + ((pE q).length + 1) := by rw [pT, List.length_append, l5, List.length_cons]
          walk_at "go"
          refine i_ixT t.sq (v := .str "link") rfl ?_
          walk_at "go"
          refine ifF (bool_ff (by decide +kernel)) ?_
          walk_at "go"
          refine ifT (decide_eq_true rfl) ?_
          walk_at "go"
          refine i_ixT t.sq (v := .ref a2) rfl ?_
          walk_at "go"
          refine i_ixT t2.sq (v := .str "station") rfl ?_
          walk_at "go"
          refine ifF (bool_ff (by decide +kernel)) ?_
          walk_at "go"
          refine i_ixT t.sq (v := .ref a2) rfl ?_
          walk_at "go"
          refine i_ixT t2.sq (v := x2) rfl ?_
          walk_at "go"
          refine ⟨x2, q, 1, rfl, d4, h3, Nat.lt_succ_of_le w3.2, by omega, fun H7 s7 => ?_⟩
          have st := st.ext s7
          rw [pO1]
          have t := t.keep (TK.same s7)
          have t2 := t2.keep (TK.same s7)
          have d1 := d1.keep_of (TK.same s7)
          have d2 := d2.keep_of (TK.same s7)
          walk_at "go"
          refine i_ixT t.sq (v := x0) rfl ?_
          walk_at "go"
          refine ⟨x0, ea, 1, rfl, d1, h1, Nat.lt_succ_of_le w1.2, by omega, fun H8 s8 => ?_⟩
          have st := st.ext s8
          rw [pO1]
          have t := t.keep (TK.same s8)
          have t2 := t2.keep (TK.same s8)
          have d2 := d2.keep_of (TK.same s8)
          refine i_addA (by simp only [cs_S, List.length_append, l0, l1, l2, l3, l4, l5]; omega) ?_
          rw [app_cs]
          walk_at "go"
          refine i_addA (by simp only [cs_S, List.length_append, l0, l1, l2, l3, l4, l5]; omega) ?_
          rw [app_cs]
          walk_at "go"
          refine i_ixT t.sq (v := y) rfl ?_
          walk_at "go"
          refine ⟨y, eb, 1, rfl, d2, h2, Nat.lt_succ_of_le w2.2, by omega, fun H9 s9 => ?_⟩
          have st := st.ext s9
          rw [pO1]
          have t := t.keep (TK.same s9)
          have t2 := t2.keep (TK.same s9)
          refine i_addA (by simp only [cs_S, List.length_append, l0, l1, l2, l3, l4, l5]; omega) ?_
          rw [app_cs]
          walk_at "go"
          refine i_addA (by simp only [cs_S, List.length_append, l0, l1, l2, l3, l4, l5]; omega) ?_
          rw [app_cs]
          walk_at "go"
          refine i_tyL (st.sqL 0 rfl) ?_
          walk_at "go"
          refine i_addA (by simp only [cs_S, List.length_append, l0, l1, l2, l3, l4, l5]; omega) ?_
          rw [app_cs]
          walk_at "go"
          refine i_ixT t.sq (v := .ref a2) rfl ?_
          walk_at "go"
          refine i_ixT t2.sq (v := .str "station") rfl ?_
          refine i_addA (by simp only [cs_S, List.length_append, l0, l1, l2, l3, l4, l5]; omega) ?_
          rw [app_cs]
          walk_at "go"
          refine i_addA (by simp only [cs_S, List.length_append, l0, l1, l2, l3, l4, l5]; omega) ?_
          rw [app_cs]
          walk_at "go"
          refine i_addA (by simp only [cs_S, List.length_append, l0, l1, l2, l3, l4, l5]; omega) ?_
          rw [app_cs]
          walk_at "go"
          refine i_addA (by simp only [cs_S, List.length_append, l0, l1, l2, l3, l4, l5]; omega) ?_
          rw [app_cs]
          walk_at "go"
          refine app (l := cs "link" ++ 32 :: (pE ea ++ 44 :: 32 :: (pE eb ++ 44 :: 32 :: (pT (.station q) ++ [59])))) (by rw [pS]) ?_ st fun H2 st => ?_
          · simp only [cs_S]
            rw [pT, show cs "link " = cs "link" ++ [32] by decide +kernel, show cs ", " = [44, 32] by decide +kernel, show cs " " = [32] by decide +kernel, show cs ";" = [59] by decide +kernel]
            simp
          · walk_at "go"
            exact ⟨_, _, _, _, _, rfl, np, st⟩
      | simple kw e =>
      rw [smL] at hsL
      rw [smD] at hd
      obtain ⟨d', rfl⟩ : ∃ q, d = q + 1 := by
        cases d with
        | zero => exact hsW.elim
        | succ d => exact ⟨d, rfl⟩
      obtain ⟨a1, x0, rfl, t, d1⟩ := ex_inv2 hd
      have n5 := kw_co kw
      obtain ⟨n1, n2, n3, n4⟩ := kw_ne kw
      have hl := hsub.len1
      simp only [List.length_append, List.length_cons, List.length_nil] at hl
      have l0 : (cs " ").length = 1 := by decide +kernel
      have l1 : (cs ";").length = 1 := by decide +kernel
      walk_at "go"
      refine i_ixT t.sq (v := .str kw.s) rfl ?_
      walk_at "go"
      refine ifF (bool_ff n1) ?_
      walk_at "go"
      refine ifF (bool_ff n2) ?_
      walk_at "go"
      refine st_newT K st (by simp) fun p2 np2 st => ?_
      have hp2 : TupAt K (upd H' p2 (.tup [V.str "repeat", V.str "if"])) p2 ((["repeat", "if"] : List Str).map V.str) := st.pers 0 rfl
      have t := t.keep (TK.same (Same.new (o := .tup [V.str "repeat", V.str "if"]) np2))
      have d1 := d1.keep_of (TK.same (Same.new (o := .tup [V.str "repeat", V.str "if"]) np2))
      refine i_inTs hp2.sq ?_
      rw [if_neg (show ¬ (false = true) by decide)]
      refine i_bl ?_
      refine ifF n5 ?_
      have st := st.forget
      walk_at "go"
      refine i_tyL (st.sqL 0 rfl) ?_
      walk_at "go"
      refine i_addA (by simp only [cs_S, List.length_append, l0, l1]; omega) ?_
      rw [app_cs]
      walk_at "go"
      refine i_addA (by simp only [cs_S, List.length_append, l0, l1]; omega) ?_
      rw [app_cs]
      walk_at "go"
      refine i_ixT t.sq (v := x0) rfl ?_
      walk_at "go"
      refine ⟨x0, e, 1, rfl, d1, hsL, Nat.lt_succ_of_le hsW.2, by omega, fun H9 s9 => ?_⟩
      have st := st.ext s9
      rw [pO1]
      refine i_addA (by simp only [cs_S, List.length_append, l0, l1]; omega) ?_
      rw [app_cs]
      walk_at "go"
      refine i_addA (by simp only [cs_S, List.length_append, l0, l1]; omega) ?_
      rw [app_cs]
      walk_at "go"
      refine app (l := cs kw.s ++ 32 :: (pE e ++ [59])) (by rw [pS]) ?_ st fun H2 st => ?_
      · simp only [cs_S]
        rw [show cs " " = [32] by decide +kernel, show cs ";" = [59] by decide +kernel]
        simp
      · walk_at "go"
        exact ⟨_, _, _, _, _, rfl, np, st⟩
      | rep e b2 =>
      have hd0 := hd
      rw [smD] at hd
      obtain ⟨a1, x0, x1, rfl, t, d1, d2⟩ := ex_inv3 hd
      walk_at "go"
      refine i_ixT t.sq (v := .str "repeat") rfl ?_
      walk_at "go"
      refine ifF (bool_ff (by decide +kernel)) ?_
      walk_at "go"
      refine ifF (bool_ff (by decide +kernel)) ?_
      walk_at "go"
      refine st_newT K st (by simp) fun p2 np2 st => ?_
      have hp2 : TupAt K (upd H' p2 (.tup [V.str "repeat", V.str "if"])) p2 ((["repeat", "if"] : List Str).map V.str) := st.pers 0 rfl
      refine i_inTs hp2.sq ?_
      rw [if_neg (show ¬ (false = true) by decide)]
      refine i_bl ?_
      refine ifT (by decide +kernel) ?_
      walk_at "go"
      refine ⟨_, _, ind, rfl, hd0.keep_of (TK.same (Same.new (o := .tup [V.str "repeat", V.str "if"]) np2)), trivial, hsL, hsW, hsub, hi, fun p3 H3 np3 e3 hp3 => ?_⟩
      have st := st.fresh np3 e3 hp3 trivial
      refine st_catB st (st.at 0 rfl) (st.at 1 rfl) (by rw [hlen]; simp only [List.length_map]; omega) fun p4 H4 np4 e4 st => ?_
      walk_at "go"
      exact ⟨_, _, _, _, _, rfl, st.isNew 2 rfl, (st.picks [2] (by decide) (L' := [(p4, .lst (LL ++ lnV (inD ind (pS (.rep e b2)))))]) rfl).forget⟩
      | ite l c r ba bb =>
      have hd0 := hd
      rw [smD] at hd
      obtain ⟨a1, x1, x2, x3, x4, x5, rfl, t, d1, d2, d3, d4, d5⟩ := ex_inv6 hd
      walk_at "go"
      refine i_ixT t.sq (v := .str "if") rfl ?_
      walk_at "go"
      refine ifF (bool_ff (by decide +kernel)) ?_
      walk_at "go"
      refine ifF (bool_ff (by decide +kernel)) ?_
      walk_at "go"
      refine st_newT K st (by simp) fun p2 np2 st => ?_
      have hp2 : TupAt K (upd H' p2 (.tup [V.str "repeat", V.str "if"])) p2 ((["repeat", "if"] : List Str).map V.str) := st.pers 0 rfl
      refine i_inTs hp2.sq ?_
      rw [if_neg (show ¬ (false = true) by decide)]
      refine i_bl ?_
      refine ifT (by decide +kernel) ?_
      walk_at "go"
      refine ⟨_, _, ind, rfl, hd0.keep_of (TK.same (Same.new (o := .tup [V.str "repeat", V.str "if"]) np2)), trivial, hsL, hsW, hsub, hi, fun p3 H3 np3 e3 hp3 => ?_⟩
      have st := st.fresh np3 e3 hp3 trivial
      refine st_catB st (st.at 0 rfl) (st.at 1 rfl) (by rw [hlen]; simp only [List.length_map]; omega) fun p4 H4 np4 e4 st => ?_
      walk_at "go"
      exact ⟨_, _, _, _, _, rfl, st.isNew 2 rfl, (st.picks [2] (by decide) (L' := [(p4, .lst (LL ++ lnV (inD ind (pS (.ite l c r ba bb)))))]) rfl).forget⟩
    · rintro σ H ⟨p, s3, s4, s5, s6, rfl, np, st⟩
      walk_at "go"
      refine k p H np st.same ?_
      rw [st.at 0 rfl, hxl, List.take_length]
end
end Fb
namespace Fb
open PySem PySem.Spec PyProof.Rows L2 PySem.HandSPX SX
def cwS (ind : List Nat) (n : Nat) (x : List (List Nat) × List Nat) (k : Nat) (ls : List (List Nat)) : List (List Nat) × List Nat :=
  if ls = [] then (x.1, (x.2 ++ [125]) ++ (if k + 1 < n then cs " else {" else [])) else (x.1 ++ [x.2] ++ inD (ind ++ [32, 32]) ls, (ind ++ [125]) ++ (if k + 1 < n then cs " else {" else []))
def cwR (ind : List Nat) (bs : List (List (List Nat))) (h : List Nat) : Nat → List (List Nat) × List Nat
  | 0 => ([], h)
  | j + 1 => cwS ind bs.length (cwR ind bs h j) j (bs.getD j [])
def cwO (ind : List Nat) (bs : List (List (List Nat))) (h : List Nat) : List (List Nat) := (cwR ind bs h bs.length).1 ++ [(cwR ind bs h bs.length).2]
theorem cwS_nil {ind : List Nat} {n : Nat} {x : List (List Nat) × List Nat} {k : Nat} {ls : List (List Nat)} (e : ls = []) : cwS ind n x k ls = (x.1, (x.2 ++ [125]) ++ (if k + 1 < n then cs " else {" else [])) := by unfold cwS; rw [if_pos e]
theorem cwS_ne {ind : List Nat} {n : Nat} {x : List (List Nat) × List Nat} {k : Nat} {ls : List (List Nat)} (e : ls ≠ []) : cwS ind n x k ls = (x.1 ++ [x.2] ++ inD (ind ++ [32, 32]) ls, (ind ++ [125]) ++ (if k + 1 < n then cs " else {" else [])) := by unfold cwS; rw [if_neg e]
theorem cw_one (ind hd : List Nat) (ls : List (List Nat)) : cwO ind [ls] (ind ++ hd ++ [32, 123]) = inD ind (pBk hd ls [125]) := by
  unfold cwO
  show (cwS ind 1 ([], ind ++ hd ++ [32, 123]) 0 ls).1 ++ [(cwS ind 1 ([], ind ++ hd ++ [32, 123]) 0 ls).2] = _
  unfold pBk
  by_cases e : ls = []
  · rw [cwS_nil e, if_pos e]
    simp [inD]
  · rw [cwS_ne e, if_neg e]
    simp [inD]
theorem cw_two (ind hd : List Nat) (la lb : List (List Nat)) (hb : lb ≠ []) : cwO ind [la, lb] (ind ++ hd ++ [32, 123]) = inD ind (pElse (pBk hd la [125]) lb) := by
  unfold cwO
  show (cwS ind 2 (cwS ind 2 ([], ind ++ hd ++ [32, 123]) 0 la) 1 lb).1 ++ [(cwS ind 2 (cwS ind 2 ([], ind ++ hd ++ [32, 123]) 0 la) 1 lb).2] = _
  have e1 : cs " else {" = 32 :: cs "else" ++ [32, 123] := by decide +kernel
  unfold pElse
  rw [if_neg hb, cwS_ne hb]
  unfold pBk
  rw [if_neg hb]
  by_cases e : la = []
  · rw [cwS_nil e, if_pos e, if_pos (by decide), e1]
    simp [inD]
  · rw [cwS_ne e, if_neg e, if_pos (by decide), e1]
    rw [show (hd ++ [32, 123]) :: (la.map (fun l => 32 :: 32 :: l) ++ [[125]]) = ((hd ++ [32, 123]) :: la.map (fun l => 32 :: 32 :: l)) ++ [[125]] by simp, lastD_snoc, List.dropLast_concat]
    simp [inD]
    rfl
theorem cwR_len {ind : List Nat} {bs : List (List (List Nat))} {h : List Nat} (hb : ∀ ls ∈ bs, ls.length ≤ 2000000) : ∀ j, (cwR ind bs h j).1.length ≤ j * 2000001 ∧ (cwR ind bs h j).2.length ≤ h.length + ind.length + 9 * j
  | 0 => ⟨Nat.zero_le _, by show h.length ≤ _; omega⟩
  | j + 1 => by
    obtain ⟨h1, h2⟩ := cwR_len (ind := ind) (h := h) hb j
    have el : (if j + 1 < bs.length then cs " else {" else []).length ≤ 7 := by
      by_cases e : j + 1 < bs.length
      · rw [if_pos e]; decide +kernel
      · rw [if_neg e]; simp
    have hl : (bs.getD j []).length ≤ 2000000 := by
      by_cases e : j < bs.length
      · rw [List.getD_eq_getElem?_getD, List.getElem?_eq_getElem e]; exact hb _ (List.getElem_mem e)
      · rw [List.getD_eq_getElem?_getD, List.getElem?_eq_none (by omega)]; simp
    rw [Nat.succ_mul]
    show (cwS ind bs.length (cwR ind bs h j) j (bs.getD j [])).1.length ≤ j * 2000001 + 2000001 ∧ (cwS ind bs.length (cwR ind bs h j) j (bs.getD j [])).2.length ≤ h.length + ind.length + 9 * (j + 1)
    generalize j * 2000001 = J at h1
    by_cases e : bs.getD j [] = []
    · rw [cwS_nil e]
      simp only [List.length_append, List.length_cons, List.length_nil]
      constructor <;> omega
    · rw [cwS_ne e]
      simp only [List.length_append, List.length_cons, List.length_nil, List.length_map]
      constructor <;> omega
theorem i_neEB {K : PySem.W.Frag} {H : Hp} {Q : VK} {v : V} {q : Addr} {b : List Sm} (hd : Dt K H v (blkD b)) (hL : blL b) (hq : H q = some (.tup [])) (k : Q (.bl (!decide (b = []))) H) : rNeM K v (.ref q) H Q :=
  ⟨blkD b, .tuple [], Dt.dp _ _ hd, .tup (SqT.of hq) .nil, lay_blk hL, by decide +kernel, Nat.le_trans (Nat.min_le_right _ _) (by decide +kernel), by rw [eqv_empB]; exact k⟩
end Fb
namespace Fb
open PySem PySem.Spec PyProof.Rows L2 PySem.HandSPX SX
section
variable {P : Program} {w : World} {K : PySem.W.Frag} {mg : Str → Option Value} {base : Heap}
set_option maxHeartbeats 0 in
theorem ok_law_compound (A : All K mg) {D d lv : Nat} (hlv : 1 ≤ lv) (c_law_print : Cal P w K mg base lv "_law_print" (spLwP K (D + 1))) (c_law_lines : Cal P w K mg base lv "_law_lines" (spLwL K D d)) : Cal P w K mg base (lv + 1) "_law_compound" (spLwC K D (d + 1)) := by
  refine cal_of A.d_law_compound sc_law_compound (fun _ _ _ _ _ _ us hl => match us, hl with | [_, _], _ => rfl) (fun vs H Q E h => ?_) (fun f cdv A' outer s0 H0 vs Q E hr h => ?_)
  · obtain ⟨v, s, ind, rfl, _⟩ := h
    rfl
  · obtain ⟨v, s, ind, rfl, hd, hco, hL, hW, hB, hi, k⟩ := h
    have hu64 := hr.units
    have hu200 := hu200_of hr
    refine ⟨_, (pss_cons (ps_set (i := 2) sc_law_compound.nd rfl (Or.inl rfl) (pe_op op_add_str (pe_op op_add_str (pe_op op_add_str (pv 1) pe_str) (pc c_law_print hr (by omega) (pa_cons (pe_ix (k_ixT (K := K) rfl) (pv 0) pe_int (fun _ _ => rfl)) (pa_cons pe_int pa_nil)))) pe_str))
 (pss_cons (ps_set (i := 3) sc_law_compound.nd rfl (Or.inl rfl) (pe_lst (pa_cons (pe_ix (k_ixT (K := K) rfl) (pv 0) (pe_op op_sub pe_int pe_int) (fun _ _ => rfl)) pa_nil)))
 (pss_cons (ps_if (pt_cmpR op_eq (pe_ix (k_ixT (K := K) rfl) (pv 0) pe_int (fun _ _ => rfl)) pe_str (nomark _)) (pss_cons (ps_set (i := 3) sc_law_compound.nd rfl (Or.inl rfl) (pe_op op_cat (pe_lst (pa_cons (pe_ix (k_ixT (K := K) rfl) (pv 0) pe_int (fun _ _ => rfl)) pa_nil)) (pe_op op_rep (pe_lst (pa_cons (pe_ix (k_ixT (K := K) rfl) (pv 0) pe_int (fun _ _ => rfl)) pa_nil)) (pe_callTy (T := "int") f_intB (by rfl) A.b_int (by decide +kernel) (pa_cons (pe_cmpR (k_neM (K := K) rfl hu200) (pe_ix (k_ixT (K := K) rfl) (pv 0) pe_int (fun _ _ => rfl)) (pe_tup pa_nil) (nomark _)) pa_nil)))))
 (pss_cons (ps_set (i := 2) sc_law_compound.nd rfl (Or.inl rfl) (pe_op op_add_str (pe_op op_add_str (pe_op op_add_str (pe_op op_add_str (pe_op op_add_str (pv 1) pe_str) (pc c_law_print hr (by omega) (pa_cons (pe_ix (k_ixT (K := K) rfl) (pv 0) pe_int (fun _ _ => rfl)) (pa_cons pe_int pa_nil)))) pe_str) (pe_ix (k_ixT (K := K) rfl) (pv 0) pe_int (fun _ _ => rfl))) pe_str))
 (pss_one (ps_set (i := 2) sc_law_compound.nd rfl (Or.inl rfl) (pe_op op_add_str (pe_op op_add_str (pv 2) (pc c_law_print hr (by omega) (pa_cons (pe_ix (k_ixT (K := K) rfl) (pv 0) pe_int (fun _ _ => rfl)) (pa_cons pe_int pa_nil)))) pe_str))))) pss_nil)
 (pss_cons (ps_set (i := 4) sc_law_compound.nd rfl (Or.inl rfl) (pe_lst pa_nil))
 (pss_cons (ps_for PassesOwn.never rfl (pi_range1 (by rfl) A.b_range (pa_cons (pe_callB (id := "len") (k_len (K := K) rfl) (by rfl) A.b_len (by decide +kernel) (pa_cons (pv 3) pa_nil)) pa_nil)) (pg_name (i := 5) sc_law_compound.nd rfl (Or.inl rfl))
 (pss_cons (ps_set (i := 6) sc_law_compound.nd rfl (Or.inl rfl) (pc c_law_lines hr (by omega) (pa_cons (pe_ix (k_ixL (K := K) rfl) (pv 3) (pv 5) (fun _ _ => rfl)) (pa_cons (pe_op op_add_str (pv 1) pe_str) pa_nil))))
 (pss_cons (ps_if (pt_cmpR (k_eqN (K := K) rfl hu64) (pv 6) (pe_lst pa_nil) (nomark _)) (pss_one (ps_set (i := 2) sc_law_compound.nd rfl (Or.inl rfl) (pe_op op_add_str (pv 2) pe_str))) (pss_cons (ps_set (i := 4) sc_law_compound.nd rfl (Or.inl rfl) (pe_op op_cat (pe_op op_cat (pv 4) (pe_lst (pa_cons (pv 2) pa_nil))) (pv 6)))
 (pss_one (ps_set (i := 2) sc_law_compound.nd rfl (Or.inl rfl) (pe_op op_add_str (pv 1) pe_str)))))
 (pss_one (ps_set (i := 2) sc_law_compound.nd rfl (Or.inl rfl) (pe_op op_add_str (pv 2) (pe_op op_repS pe_str (pe_callTy (T := "int") f_intB (by rfl) A.b_int (by decide +kernel) (pa_cons (pe_cmpR op_lt (pe_op op_add (pv 5) pe_int) (pe_callB (id := "len") (k_len (K := K) rfl) (by rfl) A.b_len (by decide +kernel) (pa_cons (pv 3) pa_nil)) (nomark _)) pa_nil)))))))))
 (pss_one (ps_ret (pe_op op_cat (pv 4) (pe_lst (pa_cons (pv 2) pa_nil)))))))))), ?_⟩
    have st : Stt [] H0 [] [] H0 := Stt.init H0
    have l0 : (cs "repeat ").length = 7 := by decide +kernel
    have l1 : (cs " {").length = 2 := by decide +kernel
    have l2 : (cs "if ").length = 3 := by decide +kernel
    have l3 : (cs " ").length = 1 := by decide +kernel
    have l4 : (cs "  ").length = 2 := by decide +kernel
    have l5 : (cs "}").length = 1 := by decide +kernel
    have l6 : (cs " else {").length = 7 := by decide +kernel
    cases s with
    | simple kw e => exact hco.elim
    | link a b t => exact hco.elim
    | asg x e => exact hco.elim
    | rep e b =>
      have hB0 := hB
      rw [smL] at hL
      rw [smD] at hd
      rw [pS] at hB k
      obtain ⟨h1, h2⟩ := hL
      obtain ⟨w1, w2⟩ := hW
      obtain ⟨a, x, y, rfl, t, d1, d2⟩ := ex_inv3 hd
      obtain ⟨hBb, hh⟩ := pBk_sub hB
      have el : (cs "repeat").length = 6 := by decide +kernel
      have hh2 : 6 + ((pE e).length + 1) ≤ 2000000 := by
        have : (hdRep e).length = 6 + ((pE e).length + 1) := by unfold hdRep; rw [List.length_append, el, List.length_cons]
        omega
      walk_at "go"
      refine i_addA (by simp only [cs_S, List.length_append, l0, l1, l2, l3, l4, l5, l6]; omega) ?_
      rw [app_cs]
      walk_at "go"
      refine i_ixT t.sq (v := x) rfl ?_
      walk_at "go"
      refine ⟨x, e, 1, rfl, d1, h1, Nat.lt_succ_of_le w1.2, by omega, fun H1 s1 => ?_⟩
      have st := st.ext s1
      rw [pO1]
      have t := t.keep (TK.same s1)
      have d2 := d2.keep_of (TK.same s1)
      refine i_addA (by simp only [cs_S, List.length_append, l0, l1, l2, l3, l4, l5, l6]; omega) ?_
      rw [app_cs]
      walk_at "go"
      refine i_addA (by simp only [cs_S, List.length_append, l0, l1, l2, l3, l4, l5, l6]; omega) ?_
      rw [app_cs]
      walk_at "go"
      refine i_ixT t.sq (v := y) rfl ?_
      walk_at "go"
      refine st_newLB st (by simp) fun bl nbl st => ?_
      have t := t.keep (TK.same (Same.new (o := .lst [y]) nbl))
      have d2 := d2.keep_of (TK.same (Same.new (o := .lst [y]) nbl))
      walk_at "go"
      refine i_ixT t.sq (v := .str "repeat") rfl ?_
      walk_at "go"
      refine ifF (bool_ff (by decide +kernel)) ?_
      refine i_next ?_
      walk_at "go"
      refine st_newLB st (by simp) fun ll nll st => ?_
      have d2 := d2.keep_of (TK.same (Same.new (o := .lst []) nll))
      have ehd : cs (S (cs (S (cs (S ind) ++ cs "repeat ")) ++ cs (S (pE e)))) ++ cs " {" = ind ++ hdRep e ++ [32, 123] := by
        simp only [cs_S]
        rw [show cs "repeat " = cs "repeat" ++ [32] by decide +kernel, show cs " {" = [32, 123] by decide +kernel]
        unfold hdRep
        simp
      have st := st.know (φ := fun H => DtAll K H [y] ([b].map blkD)) (.cons d2 .nil) Pers.all
      have tl : ∃ (bs : List (List Sm)) (bv : List V) (h : List Nat), ([y]) = bv ∧ (ind ++ hdRep e ++ [32, 123]) = h ∧ bs.length ≤ 2 ∧ bv.length = bs.length ∧ (∀ b ∈ bs, blL b ∧ (∀ s ∈ b, smW D d s) ∧ LnB 2000000 2000000 (pB b)) ∧ h.length ≤ 2003000 ∧ cwO ind (bs.map pB) h = inD ind (pBk (hdRep e) (pB b) [125]) ∧ Stt [] H0 [(bl, .lst bv), (ll, .lst [])] [fun H => DtAll K H bv (bs.map blkD)] _ := ⟨[b], [y], ind ++ hdRep e ++ [32, 123], rfl, rfl, by simp, rfl, fun b' hb' => by rw [List.mem_singleton.mp hb']; exact ⟨h2, w2, hBb⟩, by unfold hdRep; simp only [List.length_append, List.length_cons, List.length_nil, el]; omega, cw_one _ _ _, st⟩
      clear st
      obtain ⟨bs, bv, h, ebv, eh, hb2, hbl, hbb, hh, hout, st⟩ := tl
      rw [ehd, eh]
      have hpb : ∀ ls ∈ bs.map pB, ls.length ≤ 2000000 := by
        intro ls hls
        obtain ⟨b, hb, rfl⟩ := List.mem_map.mp hls
        exact (hbb b hb).2.2.1
      have hcw := cwR_len (ind := ind) (h := h) hpb
      walk_at "go"
      refine i_lenL (st.sqL 0 rfl) ?_
      walk_at "go"
      refine ⟨_, rfl, by omega, by omega, ForIt.go walk_range (fun j σ H => ∃ s5 s6 l2, σ = [some (.ref a), some (.str (S ind)), some (.str (S (cwR ind (bs.map pB) h j).2)), some (.ref bl), some (.ref l2), s5, s6] ∧ Stt [] H0 [(bl, .lst bv), (l2, .lst (lnV (cwR ind (bs.map pB) h j).1))] [fun H => DtAll K H bv (bs.map blkD)] H) ⟨_, _, _, rfl, st⟩ (fun _ _ _ _ _ => trivial) ?_ ?_⟩
      · clear st
        rintro j x σ H H' hj ⟨s5, s6, l2, rfl, st⟩ ⟨rfl, rfl⟩
        have hj : j < bs.length := by omega
        have hx : bs[j]? = some bs[j] := List.getElem?_eq_getElem hj
        obtain ⟨hL1, hW1, hB1⟩ := hbb _ (List.getElem_mem hj)
        obtain ⟨v1, hv1⟩ : ∃ v1, bv[j]? = some v1 := ⟨_, List.getElem?_eq_getElem (by omega)⟩
        have hc := hcw j
        have ec : cwR ind (bs.map pB) h (j + 1) = cwS ind bs.length (cwR ind (bs.map pB) h j) j (pB bs[j]) := by
          show cwS ind (bs.map pB).length _ _ _ = _
          rw [List.length_map, List.getD_eq_getElem?_getD, List.getElem?_map, hx]
          rfl
        rw [ec]
        generalize bs[j] = b1 at hx hL1 hW1 hB1
        generalize cwR ind (bs.map pB) h j = X at st hc
        obtain ⟨LL, hd1⟩ := X
        have hc1 : LL.length ≤ j * 2000001 := hc.1
        have hc2 : hd1.length ≤ h.length + ind.length + 9 * j := hc.2
        have dv : Dt K H' v1 (blkD b1) := by
          obtain ⟨dd, q1, q2⟩ := (st.pers 0 rfl : DtAll K H' bv (bs.map blkD)).get hv1
          rw [List.getElem?_map, hx] at q1
          cases q1
          exact q2
        have hbn := hB1.1
        walk_at "go"
        refine i_ixL (st.sqL 0 rfl) (v := v1) (by rw [Int.zero_add]; exact atI_nat hv1) ?_
        walk_at "go"
        refine i_addA (by simp only [cs_S, l4]; omega) ?_
        rw [app_cs]
        walk_at "go"
        refine ⟨v1, b1, ind ++ [32, 32], by simp only [cs_S]; rfl, dv, hL1, hW1, hB1, by simp only [List.length_append, List.length_cons, List.length_nil]; omega, fun p3 H3 np3 e3 hp3 => ?_⟩
        have st := st.fresh np3 e3 hp3 trivial
        walk_at "go"
        refine st_newLB st (by simp) fun p4 np4 st => ?_
        refine ⟨_, _, _, rfl, rfl, st.sqL 2 rfl, st.sqL 3 rfl, ?_⟩
        have last : ∀ {hd2 : List Nat} {σ : L2.St} {N : Prop}, (j + 1 < bs.length → N) → True := fun _ => trivial
        refine i_bl ?_
        by_cases hb : pB b1 = []
        · rw [cwS_nil hb]
          refine ifT (decide_eq_true (by simp [hb, inD])) ?_
          walk_at "go"
          refine i_addA (by simp only [cs_S, l5]; omega) ?_
          rw [app_cs]
          walk_at "go"
          refine i_lenL (st.sqL 0 rfl) ?_
          walk_at "go"
          have hdec : ∀ {x : Prop}, True := fun {_} => trivial
          by_cases hj2 : j + 1 < bs.length
          · refine ⟨_, _, rfl, rfl, .inr ⟨by rw [decide_eq_true (show (0 : Int) + (j : Nat) + 1 < (bv.length : Nat) by omega)]; rfl, ?_⟩⟩
            refine i_addA (by simp only [cs_S, List.length_append, l5, l6]; omega) ?_
            rw [app_cs]
            walk_at "go"
            refine ⟨some (.int (0 + (j : Nat))), some (.ref p3), _, ?_, (st.picks [0, 1] (by decide) (L' := [(bl, .lst bv), (l2, .lst (lnV LL))]) rfl)⟩
            rw [if_pos hj2]
            simp only [cs_S]
            rw [show cs "}" = [125] by decide +kernel]
            rfl
          · refine ⟨_, _, rfl, rfl, .inl ⟨by rw [decide_eq_false (show ¬ ((0 : Int) + (j : Nat) + 1 < (bv.length : Nat)) by omega)]; rfl, ?_⟩⟩
            refine i_addA (by simp only [cs_S, List.length_append, l5, show (cs "").length = 0 from rfl]; omega) ?_
            rw [app_cs]
            walk_at "go"
            refine ⟨some (.int (0 + (j : Nat))), some (.ref p3), _, ?_, (st.picks [0, 1] (by decide) (L' := [(bl, .lst bv), (l2, .lst (lnV LL))]) rfl)⟩
            rw [if_neg hj2]
            simp only [cs_S]
            rw [show cs "}" = [125] by decide +kernel, show cs "" = [] from rfl]
            rfl
        · rw [cwS_ne hb]
          refine ifF (decide_eq_false (by simp [hb, inD])) ?_
          have hj3 : j ≤ 2 := by omega
          have hc1 : LL.length ≤ 4000002 := Nat.le_trans hc1 (Nat.le_trans (Nat.mul_le_mul_right 2000001 hj3) (by decide))
          walk_at "go"
          refine st_newLB st (by simp) fun p5 np5 st => ?_
          refine st_catB st (st.at 1 rfl) (st.at 4 rfl) (by simp only [List.length_map, List.length_cons, List.length_nil]; omega) fun p6 H6 np6 e6 st => ?_
          walk_at "go"
          refine st_catB st (st.at 5 rfl) (st.at 2 rfl) (by simp only [List.length_append, List.length_map, List.length_cons, List.length_nil]; omega) fun p7 H7 np7 e7 st => ?_
          walk_at "go"
          refine i_addA (by simp only [cs_S, l5]; omega) ?_
          rw [app_cs]
          walk_at "go"
          refine i_lenL (st.sqL 0 rfl) ?_
          have st2 : Stt [] H0 [(bl, .lst bv), (p7, .lst (lnV (LL ++ [hd1] ++ inD (ind ++ [32, 32]) (pB b1))))] [fun H => DtAll K H bv (bs.map blkD)] H7 := by
            have := st.picks [0, 6] (by decide) (L' := [(bl, .lst bv), (p7, .lst (lnV LL ++ [.str (S hd1)] ++ lnV (inD (ind ++ [32, 32]) (pB b1))))]) rfl
            rw [show lnV (LL ++ [hd1] ++ inD (ind ++ [32, 32]) (pB b1)) = lnV LL ++ [.str (S hd1)] ++ lnV (inD (ind ++ [32, 32]) (pB b1)) by simp [lnV]]
            exact this
          walk_at "go"
          have hdec : ∀ {x : Prop}, True := fun {_} => trivial
          by_cases hj2 : j + 1 < bs.length
          · refine ⟨_, _, rfl, rfl, .inr ⟨by rw [decide_eq_true (show (0 : Int) + (j : Nat) + 1 < (bv.length : Nat) by omega)]; rfl, ?_⟩⟩
            refine i_addA (by simp only [cs_S, List.length_append, l5, l6]; omega) ?_
            rw [app_cs]
            walk_at "go"
            refine ⟨some (.int (0 + (j : Nat))), some (.ref p3), _, ?_, st2⟩
            rw [if_pos hj2]
            simp only [cs_S]
            rw [show cs "}" = [125] by decide +kernel]
            rfl
          · refine ⟨_, _, rfl, rfl, .inl ⟨by rw [decide_eq_false (show ¬ ((0 : Int) + (j : Nat) + 1 < (bv.length : Nat)) by omega)]; rfl, ?_⟩⟩
            refine i_addA (by simp only [cs_S, List.length_append, l5, show (cs "").length = 0 from rfl]; omega) ?_
            rw [app_cs]
            walk_at "go"
            refine ⟨some (.int (0 + (j : Nat))), some (.ref p3), _, ?_, st2⟩
            rw [if_neg hj2]
            simp only [cs_S]
            rw [show cs "}" = [125] by decide +kernel, show cs "" = [] from rfl]
            rfl
      · clear st
        rintro σ H ⟨s5, s6, l2, rfl, st⟩
        have hn : ((bv.length : Nat) : Int).toNat = bs.length := by omega
        rw [hn] at st
        have hc := hcw bs.length
        walk_at "go"
        refine st_newLB st (by simp) fun p5 np5 st => ?_
        have hc1 : (cwR ind (bs.map pB) h bs.length).1.length ≤ 4000002 := Nat.le_trans hc.1 (Nat.le_trans (Nat.mul_le_mul_right 2000001 hb2) (by decide))
        refine st_catB st (st.at 1 rfl) (st.at 2 rfl) (by
          simp only [List.length_map, List.length_cons, List.length_nil]; omega) fun p6 H6 np6 e6 st => ?_
        refine k p6 H6 (st.isNew 3 rfl) st.same ?_
        rw [st.at 3 rfl, ← hout]
        unfold cwO
        rw [List.length_map, hn]
        simp [lnV]
    | ite l c r ba bb =>
      rw [smL] at hL
      rw [smD] at hd
      rw [pS] at hB k
      obtain ⟨h1, h2, h3, h4⟩ := hL
      obtain ⟨w1, w2, w3, w4⟩ := hW
      obtain ⟨a, x1, x2, x3, x4, x5, rfl, t, d1, d2, d3, d4, d5⟩ := ex_inv6 hd
      obtain rfl := dt_str d2
      obtain ⟨hBa, hBb, hh⟩ := pElse_sub hB
      have el : (cs "if").length = 2 := by decide +kernel
      have hh2 : 2 + ((pE l).length + ((cs c.s).length + ((pE r).length + 1) + 1) + 1) ≤ 2000000 := by
        have : (hdIf l c r).length = 2 + ((pE l).length + ((cs c.s).length + ((pE r).length + 1) + 1) + 1) := by
          unfold hdIf
          rw [List.length_append, el, List.length_cons, List.length_append, List.length_cons, List.length_append, List.length_cons]
        omega
      walk_at "go"
      refine i_addA (by simp only [cs_S, List.length_append, l0, l1, l2, l3, l4, l5, l6]; omega) ?_
      rw [app_cs]
      walk_at "go"
      refine i_ixT t.sq (v := x1) rfl ?_
      walk_at "go"
      refine ⟨x1, l, 1, rfl, d1, h1, Nat.lt_succ_of_le w1.2, by omega, fun H1 s1 => ?_⟩
      have st := st.ext s1
      rw [pO1]
      have t := t.keep (TK.same s1)
      have d1 := d1.keep_of (TK.same s1)
      have d3 := d3.keep_of (TK.same s1)
      have d4 := d4.keep_of (TK.same s1)
      have d5 := d5.keep_of (TK.same s1)
      refine i_addA (by simp only [cs_S, List.length_append, l0, l1, l2, l3, l4, l5, l6]; omega) ?_
      rw [app_cs]
      walk_at "go"
      refine i_addA (by simp only [cs_S, List.length_append, l0, l1, l2, l3, l4, l5, l6]; omega) ?_
      rw [app_cs]
      walk_at "go"
      refine i_ixT t.sq (v := x5) rfl ?_
      walk_at "go"
      refine st_newLB st (by simp) fun bl0 nbl0 st => ?_
      have s2 := Same.new (o := .lst [x5]) nbl0
      have t := t.keep (TK.same s2)
      have d1 := d1.keep_of (TK.same s2)
      have d3 := d3.keep_of (TK.same s2)
      have d4 := d4.keep_of (TK.same s2)
      have d5 := d5.keep_of (TK.same s2)
      walk_at "go"
      refine i_ixT t.sq (v := .str "if") rfl ?_
      walk_at "go"
      refine ifT (decide_eq_true rfl) ?_
      walk_at "go"
      refine i_ixT t.sq (v := x4) rfl ?_
      walk_at "go"
      refine st_newLB st (by simp) fun bl1 nbl1 st => ?_
      have s3 := Same.new (o := .lst [x4]) nbl1
      have t := t.keep (TK.same s3)
      have d1 := d1.keep_of (TK.same s3)
      have d3 := d3.keep_of (TK.same s3)
      have d4 := d4.keep_of (TK.same s3)
      have d5 := d5.keep_of (TK.same s3)
      walk_at "go"
      refine i_ixT t.sq (v := x5) rfl ?_
      walk_at "go"
      refine st_newLB st (by simp) fun bl2 nbl2 st => ?_
      have s4 := Same.new (o := .lst [x5]) nbl2
      have t := t.keep (TK.same s4)
      have d1 := d1.keep_of (TK.same s4)
      have d3 := d3.keep_of (TK.same s4)
      have d4 := d4.keep_of (TK.same s4)
      have d5 := d5.keep_of (TK.same s4)
      walk_at "go"
      refine i_ixT t.sq (v := x5) rfl ?_
      walk_at "go"
      refine ⟨sz_of (by simp), fun q nq => ?_⟩
      have st := st.ext (Same.new (o := .tup []) nq)
      have s5 := Same.new (o := .tup []) nq
      have t := t.keep (TK.same s5)
      have d1 := d1.keep_of (TK.same s5)
      have d3 := d3.keep_of (TK.same s5)
      have d4 := d4.keep_of (TK.same s5)
      have d5 := d5.keep_of (TK.same s5)
      refine i_neEB d5 h4 upd_same ?_
      walk_at "go"
      have hrep : ∀ {z : Int} {n : Nat}, z = (n : Nat) → n ≤ 1 → z ≤ 100000 ∧ -100000 ≤ z ∧ z.toNat = n := fun {z n} e h => by omega
      have hz : ∃ n : Nat, (if (!decide (bb = [])) = true then (1 : Int) else 0) = (n : Nat) ∧ n ≤ 1 ∧ n = if bb = [] then 0 else 1 := by
        by_cases e : bb = []
        · exact ⟨0, by rw [decide_eq_true e]; rfl, by decide, by rw [if_pos e]⟩
        · exact ⟨1, by rw [decide_eq_false e]; rfl, by decide, by rw [if_neg e]⟩
      obtain ⟨n, hz1, hz2, hz3⟩ := hz
      rw [hz1]
      obtain ⟨r1, r2, r3⟩ := hrep (z := (n : Nat)) rfl hz2
      refine st_rep st (st.at 2 rfl) r1 r2 fun bl3 H6 nbl3 s6 st => ?_
      rw [r3] at st
      have t := t.keep (TK.same s6)
      have d1 := d1.keep_of (TK.same s6)
      have d3 := d3.keep_of (TK.same s6)
      have d4 := d4.keep_of (TK.same s6)
      have d5 := d5.keep_of (TK.same s6)
      refine st_catB st (st.at 1 rfl) (st.at 3 rfl) (by simp only [List.length_replicate, List.length_cons, List.length_nil]; omega) fun bl H7 nbl s7 st => ?_
      have t := t.keep (TK.same s7)
      have d1 := d1.keep_of (TK.same s7)
      have d3 := d3.keep_of (TK.same s7)
      have d4 := d4.keep_of (TK.same s7)
      have d5 := d5.keep_of (TK.same s7)
      walk_at "go"
      refine i_addA (by simp only [cs_S, List.length_append, l0, l1, l2, l3, l4, l5, l6]; omega) ?_
      rw [app_cs]
      walk_at "go"
      refine i_ixT t.sq (v := x1) rfl ?_
      walk_at "go"
      refine ⟨x1, l, 1, rfl, d1, h1, Nat.lt_succ_of_le w1.2, by omega, fun H8 s8 => ?_⟩
      have st := st.ext s8
      rw [pO1]
      have t := t.keep (TK.same s8)
      have d3 := d3.keep_of (TK.same s8)
      have d4 := d4.keep_of (TK.same s8)
      have d5 := d5.keep_of (TK.same s8)
      refine i_addA (by simp only [cs_S, List.length_append, l0, l1, l2, l3, l4, l5, l6]; omega) ?_
      rw [app_cs]
      walk_at "go"
      refine i_addA (by simp only [cs_S, List.length_append, l0, l1, l2, l3, l4, l5, l6]; omega) ?_
      rw [app_cs]
      walk_at "go"
      refine i_ixT t.sq (v := .str c.s) rfl ?_
      refine i_addA (by simp only [cs_S, List.length_append, l0, l1, l2, l3, l4, l5, l6]; omega) ?_
      rw [app_cs]
      walk_at "go"
      refine i_addA (by simp only [cs_S, List.length_append, l0, l1, l2, l3, l4, l5, l6]; omega) ?_
      rw [app_cs]
      walk_at "go"
      refine i_ixT t.sq (v := x3) rfl ?_
      walk_at "go"
      refine ⟨x3, r, 1, rfl, d3, h2, Nat.lt_succ_of_le w2.2, by omega, fun H9 s9 => ?_⟩
      have st := st.ext s9
      rw [pO1]
      have d4 := d4.keep_of (TK.same s9)
      have d5 := d5.keep_of (TK.same s9)
      refine i_addA (by simp only [cs_S, List.length_append, l0, l1, l2, l3, l4, l5, l6]; omega) ?_
      rw [app_cs]
      walk_at "go"
      refine i_addA (by simp only [cs_S, List.length_append, l0, l1, l2, l3, l4, l5, l6]; omega) ?_
      rw [app_cs]
      walk_at "go"
      have st := st.picks [4] (by decide) (L' := [(bl, .lst ([x4] ++ List.replicate n x5))]) rfl
      refine st_newLB st (by simp) fun ll nll st => ?_
      have s1 := Same.new (o := .lst []) nll
      have d4 := d4.keep_of (TK.same s1)
      have d5 := d5.keep_of (TK.same s1)
      have ehd : cs (S (cs (S (cs (S (cs (S (cs (S (cs (S (cs (S ind) ++ cs "if ")) ++ cs (S (pE l)))) ++ cs " ")) ++ cs c.s)) ++ cs " ")) ++ cs (S (pE r)))) ++ cs " {" = ind ++ hdIf l c r ++ [32, 123] := by
        simp only [cs_S]
        rw [show cs "if " = cs "if" ++ [32] by decide +kernel, show cs " " = [32] by decide +kernel, show cs " {" = [32, 123] by decide +kernel]
        unfold hdIf
        simp
      have ehl : (ind ++ hdIf l c r ++ [32, 123]).length ≤ 2003000 := by
        unfold hdIf
        simp only [List.length_append, List.length_cons, List.length_nil, el]
        omega
      by_cases hb0 : bb = []
      · rw [if_pos hb0] at hz3
        subst hz3
        have st := st.know (φ := fun H => DtAll K H [x4] ([ba].map blkD)) (.cons d4 .nil) Pers.all
        have tl : ∃ (bs : List (List Sm)) (bv : List V) (h : List Nat), ([x4]) = bv ∧ (ind ++ hdIf l c r ++ [32, 123]) = h ∧ bs.length ≤ 2 ∧ bv.length = bs.length ∧ (∀ b ∈ bs, blL b ∧ (∀ s ∈ b, smW D d s) ∧ LnB 2000000 2000000 (pB b)) ∧ h.length ≤ 2003000 ∧ cwO ind (bs.map pB) h = inD ind (pElse (pBk (hdIf l c r) (pB ba) [125]) (pB bb)) ∧ Stt [] H0 [(bl, .lst bv), (ll, .lst [])] [fun H => DtAll K H bv (bs.map blkD)] _ := ⟨[ba], [x4], ind ++ hdIf l c r ++ [32, 123], rfl, rfl, by simp, rfl, fun b' hb' => by rw [List.mem_singleton.mp hb']; exact ⟨h3, w3, hBa⟩, ehl, by rw [show pElse (pBk (hdIf l c r) (pB ba) [125]) (pB bb) = pBk (hdIf l c r) (pB ba) [125] by unfold pElse; rw [if_pos (pB_nil.mpr hb0)]]; exact cw_one _ _ _, st⟩
        clear st
        obtain ⟨bs, bv, h, ebv, eh, hb2, hbl, hbb, hh, hout, st⟩ := tl
        rw [ehd, eh]
        have hpb : ∀ ls ∈ bs.map pB, ls.length ≤ 2000000 := by
          intro ls hls
          obtain ⟨b, hb, rfl⟩ := List.mem_map.mp hls
          exact (hbb b hb).2.2.1
        have hcw := cwR_len (ind := ind) (h := h) hpb
        walk_at "go"
        refine i_lenL (st.sqL 0 rfl) ?_
        walk_at "go"
        refine ⟨_, rfl, by omega, by omega, ForIt.go walk_range (fun j σ H => ∃ s5 s6 l2, σ = [some (.ref a), some (.str (S ind)), some (.str (S (cwR ind (bs.map pB) h j).2)), some (.ref bl), some (.ref l2), s5, s6] ∧ Stt [] H0 [(bl, .lst bv), (l2, .lst (lnV (cwR ind (bs.map pB) h j).1))] [fun H => DtAll K H bv (bs.map blkD)] H) ⟨_, _, _, rfl, st⟩ (fun _ _ _ _ _ => trivial) ?_ ?_⟩
        · clear st
          rintro j x σ H H' hj ⟨s5, s6, l2, rfl, st⟩ ⟨rfl, rfl⟩
          have hj : j < bs.length := by omega
          have hx : bs[j]? = some bs[j] := List.getElem?_eq_getElem hj
          obtain ⟨hL1, hW1, hB1⟩ := hbb _ (List.getElem_mem hj)
          obtain ⟨v1, hv1⟩ : ∃ v1, bv[j]? = some v1 := ⟨_, List.getElem?_eq_getElem (by omega)⟩
          have hc := hcw j
          have ec : cwR ind (bs.map pB) h (j + 1) = cwS ind bs.length (cwR ind (bs.map pB) h j) j (pB bs[j]) := by
            show cwS ind (bs.map pB).length _ _ _ = _
            rw [List.length_map, List.getD_eq_getElem?_getD, List.getElem?_map, hx]
            rfl
          rw [ec]
          generalize bs[j] = b1 at hx hL1 hW1 hB1
          generalize cwR ind (bs.map pB) h j = X at st hc
          obtain ⟨LL, hd1⟩ := X
          have hc1 : LL.length ≤ j * 2000001 := hc.1
          have hc2 : hd1.length ≤ h.length + ind.length + 9 * j := hc.2
          have dv : Dt K H' v1 (blkD b1) := by
            obtain ⟨dd, q1, q2⟩ := (st.pers 0 rfl : DtAll K H' bv (bs.map blkD)).get hv1
            rw [List.getElem?_map, hx] at q1
            cases q1
            exact q2
          have hbn := hB1.1
          walk_at "go"
          refine i_ixL (st.sqL 0 rfl) (v := v1) (by rw [Int.zero_add]; exact atI_nat hv1) ?_
          walk_at "go"
          refine i_addA (by simp only [cs_S, l4]; omega) ?_
          rw [app_cs]
          walk_at "go"
          refine ⟨v1, b1, ind ++ [32, 32], by simp only [cs_S]; rfl, dv, hL1, hW1, hB1, by simp only [List.length_append, List.length_cons, List.length_nil]; omega, fun p3 H3 np3 e3 hp3 => ?_⟩
          have st := st.fresh np3 e3 hp3 trivial
          walk_at "go"
          refine st_newLB st (by simp) fun p4 np4 st => ?_
          refine ⟨_, _, _, rfl, rfl, st.sqL 2 rfl, st.sqL 3 rfl, ?_⟩
          have last : ∀ {hd2 : List Nat} {σ : L2.St} {N : Prop}, (j + 1 < bs.length → N) → True := fun _ => trivial
          refine i_bl ?_
          by_cases hb : pB b1 = []
          · rw [cwS_nil hb]
            refine ifT (decide_eq_true (by simp [hb, inD])) ?_
            walk_at "go"
            refine i_addA (by simp only [cs_S, l5]; omega) ?_
            rw [app_cs]
            walk_at "go"
            refine i_lenL (st.sqL 0 rfl) ?_
            walk_at "go"
            have hdec : ∀ {x : Prop}, True := fun {_} => trivial
            by_cases hj2 : j + 1 < bs.length
            · refine ⟨_, _, rfl, rfl, .inr ⟨by rw [decide_eq_true (show (0 : Int) + (j : Nat) + 1 < (bv.length : Nat) by omega)]; rfl, ?_⟩⟩
              refine i_addA (by simp only [cs_S, List.length_append, l5, l6]; omega) ?_
              rw [app_cs]
              walk_at "go"
              refine ⟨some (.int (0 + (j : Nat))), some (.ref p3), _, ?_, (st.picks [0, 1] (by decide) (L' := [(bl, .lst bv), (l2, .lst (lnV LL))]) rfl)⟩
              rw [if_pos hj2]
              simp only [cs_S]
              rw [show cs "}" = [125] by decide +kernel]
              rfl
            · refine ⟨_, _, rfl, rfl, .inl ⟨by rw [decide_eq_false (show ¬ ((0 : Int) + (j : Nat) + 1 < (bv.length : Nat)) by omega)]; rfl, ?_⟩⟩
              refine i_addA (by simp only [cs_S, List.length_append, l5, show (cs "").length = 0 from rfl]; omega) ?_
              rw [app_cs]
              walk_at "go"
              refine ⟨some (.int (0 + (j : Nat))), some (.ref p3), _, ?_, (st.picks [0, 1] (by decide) (L' := [(bl, .lst bv), (l2, .lst (lnV LL))]) rfl)⟩
              rw [if_neg hj2]
              simp only [cs_S]
              rw [show cs "}" = [125] by decide +kernel, show cs "" = [] from rfl]
              rfl
          · rw [cwS_ne hb]
            refine ifF (decide_eq_false (by simp [hb, inD])) ?_
            have hj3 : j ≤ 2 := by omega
            have hc1 : LL.length ≤ 4000002 := Nat.le_trans hc1 (Nat.le_trans (Nat.mul_le_mul_right 2000001 hj3) (by decide))
            walk_at "go"
            refine st_newLB st (by simp) fun p5 np5 st => ?_
            refine st_catB st (st.at 1 rfl) (st.at 4 rfl) (by simp only [List.length_map, List.length_cons, List.length_nil]; omega) fun p6 H6 np6 e6 st => ?_
            walk_at "go"
            refine st_catB st (st.at 5 rfl) (st.at 2 rfl) (by simp only [List.length_append, List.length_map, List.length_cons, List.length_nil]; omega) fun p7 H7 np7 e7 st => ?_
            walk_at "go"
            refine i_addA (by simp only [cs_S, l5]; omega) ?_
            rw [app_cs]
            walk_at "go"
            refine i_lenL (st.sqL 0 rfl) ?_
            have st2 : Stt [] H0 [(bl, .lst bv), (p7, .lst (lnV (LL ++ [hd1] ++ inD (ind ++ [32, 32]) (pB b1))))] [fun H => DtAll K H bv (bs.map blkD)] H7 := by
              have := st.picks [0, 6] (by decide) (L' := [(bl, .lst bv), (p7, .lst (lnV LL ++ [.str (S hd1)] ++ lnV (inD (ind ++ [32, 32]) (pB b1))))]) rfl
              rw [show lnV (LL ++ [hd1] ++ inD (ind ++ [32, 32]) (pB b1)) = lnV LL ++ [.str (S hd1)] ++ lnV (inD (ind ++ [32, 32]) (pB b1)) by simp [lnV]]
              exact this
            walk_at "go"
            have hdec : ∀ {x : Prop}, True := fun {_} => trivial
            by_cases hj2 : j + 1 < bs.length
            · refine ⟨_, _, rfl, rfl, .inr ⟨by rw [decide_eq_true (show (0 : Int) + (j : Nat) + 1 < (bv.length : Nat) by omega)]; rfl, ?_⟩⟩
              refine i_addA (by simp only [cs_S, List.length_append, l5, l6]; omega) ?_
              rw [app_cs]
              walk_at "go"
              refine ⟨some (.int (0 + (j : Nat))), some (.ref p3), _, ?_, st2⟩
              rw [if_pos hj2]
              simp only [cs_S]
              rw [show cs "}" = [125] by decide +kernel]
              rfl
            · refine ⟨_, _, rfl, rfl, .inl ⟨by rw [decide_eq_false (show ¬ ((0 : Int) + (j : Nat) + 1 < (bv.length : Nat)) by omega)]; rfl, ?_⟩⟩
              refine i_addA (by simp only [cs_S, List.length_append, l5, show (cs "").length = 0 from rfl]; omega) ?_
              rw [app_cs]
              walk_at "go"
              refine ⟨some (.int (0 + (j : Nat))), some (.ref p3), _, ?_, st2⟩
              rw [if_neg hj2]
              simp only [cs_S]
              rw [show cs "}" = [125] by decide +kernel, show cs "" = [] from rfl]
              rfl
        · clear st
          rintro σ H ⟨s5, s6, l2, rfl, st⟩
          have hn : ((bv.length : Nat) : Int).toNat = bs.length := by omega
          rw [hn] at st
          have hc := hcw bs.length
          walk_at "go"
          refine st_newLB st (by simp) fun p5 np5 st => ?_
          have hc1 : (cwR ind (bs.map pB) h bs.length).1.length ≤ 4000002 := Nat.le_trans hc.1 (Nat.le_trans (Nat.mul_le_mul_right 2000001 hb2) (by decide))
          refine st_catB st (st.at 1 rfl) (st.at 2 rfl) (by
            simp only [List.length_map, List.length_cons, List.length_nil]; omega) fun p6 H6 np6 e6 st => ?_
          refine k p6 H6 (st.isNew 3 rfl) st.same ?_
          rw [st.at 3 rfl, ← hout]
          unfold cwO
          rw [List.length_map, hn]
          simp [lnV]
      · rw [if_neg hb0] at hz3
        subst hz3
        have st := st.know (φ := fun H => DtAll K H [x4, x5] ([ba, bb].map blkD)) (.cons d4 (.cons d5 .nil)) Pers.all
        have tl : ∃ (bs : List (List Sm)) (bv : List V) (h : List Nat), ([x4, x5]) = bv ∧ (ind ++ hdIf l c r ++ [32, 123]) = h ∧ bs.length ≤ 2 ∧ bv.length = bs.length ∧ (∀ b ∈ bs, blL b ∧ (∀ s ∈ b, smW D d s) ∧ LnB 2000000 2000000 (pB b)) ∧ h.length ≤ 2003000 ∧ cwO ind (bs.map pB) h = inD ind (pElse (pBk (hdIf l c r) (pB ba) [125]) (pB bb)) ∧ Stt [] H0 [(bl, .lst bv), (ll, .lst [])] [fun H => DtAll K H bv (bs.map blkD)] _ := ⟨[ba, bb], [x4, x5], ind ++ hdIf l c r ++ [32, 123], rfl, rfl, by simp, rfl, fun b' hb' => by rcases List.mem_cons.mp hb' with rfl | hb'; exact ⟨h3, w3, hBa⟩; rw [List.mem_singleton.mp hb']; exact ⟨h4, w4, hBb⟩, ehl, cw_two _ _ _ _ (fun q => hb0 (pB_nil.mp q)), st⟩
        clear st
        obtain ⟨bs, bv, h, ebv, eh, hb2, hbl, hbb, hh, hout, st⟩ := tl
        rw [ehd, eh]
        have hpb : ∀ ls ∈ bs.map pB, ls.length ≤ 2000000 := by
          intro ls hls
          obtain ⟨b, hb, rfl⟩ := List.mem_map.mp hls
          exact (hbb b hb).2.2.1
        have hcw := cwR_len (ind := ind) (h := h) hpb
        walk_at "go"
        refine i_lenL (st.sqL 0 rfl) ?_
        walk_at "go"
        refine ⟨_, rfl, by omega, by omega, ForIt.go walk_range (fun j σ H => ∃ s5 s6 l2, σ = [some (.ref a), some (.str (S ind)), some (.str (S (cwR ind (bs.map pB) h j).2)), some (.ref bl), some (.ref l2), s5, s6] ∧ Stt [] H0 [(bl, .lst bv), (l2, .lst (lnV (cwR ind (bs.map pB) h j).1))] [fun H => DtAll K H bv (bs.map blkD)] H) ⟨_, _, _, rfl, st⟩ (fun _ _ _ _ _ => trivial) ?_ ?_⟩
        · clear st
          rintro j x σ H H' hj ⟨s5, s6, l2, rfl, st⟩ ⟨rfl, rfl⟩
          have hj : j < bs.length := by omega
          have hx : bs[j]? = some bs[j] := List.getElem?_eq_getElem hj
          obtain ⟨hL1, hW1, hB1⟩ := hbb _ (List.getElem_mem hj)
          obtain ⟨v1, hv1⟩ : ∃ v1, bv[j]? = some v1 := ⟨_, List.getElem?_eq_getElem (by omega)⟩
          have hc := hcw j
          have ec : cwR ind (bs.map pB) h (j + 1) = cwS ind bs.length (cwR ind (bs.map pB) h j) j (pB bs[j]) := by
            show cwS ind (bs.map pB).length _ _ _ = _
            rw [List.length_map, List.getD_eq_getElem?_getD, List.getElem?_map, hx]
            rfl
          rw [ec]
          generalize bs[j] = b1 at hx hL1 hW1 hB1
          generalize cwR ind (bs.map pB) h j = X at st hc
          obtain ⟨LL, hd1⟩ := X
          have hc1 : LL.length ≤ j * 2000001 := hc.1
          have hc2 : hd1.length ≤ h.length + ind.length + 9 * j := hc.2
          have dv : Dt K H' v1 (blkD b1) := by
            obtain ⟨dd, q1, q2⟩ := (st.pers 0 rfl : DtAll K H' bv (bs.map blkD)).get hv1
            rw [List.getElem?_map, hx] at q1
            cases q1
            exact q2
          have hbn := hB1.1
          walk_at "go"
          refine i_ixL (st.sqL 0 rfl) (v := v1) (by rw [Int.zero_add]; exact atI_nat hv1) ?_
          walk_at "go"
          refine i_addA (by simp only [cs_S, l4]; omega) ?_
          rw [app_cs]
          walk_at "go"
          refine ⟨v1, b1, ind ++ [32, 32], by simp only [cs_S]; rfl, dv, hL1, hW1, hB1, by simp only [List.length_append, List.length_cons, List.length_nil]; omega, fun p3 H3 np3 e3 hp3 => ?_⟩
          have st := st.fresh np3 e3 hp3 trivial
          walk_at "go"
          refine st_newLB st (by simp) fun p4 np4 st => ?_
          refine ⟨_, _, _, rfl, rfl, st.sqL 2 rfl, st.sqL 3 rfl, ?_⟩
          have last : ∀ {hd2 : List Nat} {σ : L2.St} {N : Prop}, (j + 1 < bs.length → N) → True := fun _ => trivial
          refine i_bl ?_
          by_cases hb : pB b1 = []
          · rw [cwS_nil hb]
            refine ifT (decide_eq_true (by simp [hb, inD])) ?_
            walk_at "go"
            refine i_addA (by simp only [cs_S, l5]; omega) ?_
            rw [app_cs]
            walk_at "go"
            refine i_lenL (st.sqL 0 rfl) ?_
            walk_at "go"
            have hdec : ∀ {x : Prop}, True := fun {_} => trivial
            by_cases hj2 : j + 1 < bs.length
            · refine ⟨_, _, rfl, rfl, .inr ⟨by rw [decide_eq_true (show (0 : Int) + (j : Nat) + 1 < (bv.length : Nat) by omega)]; rfl, ?_⟩⟩
              refine i_addA (by simp only [cs_S, List.length_append, l5, l6]; omega) ?_
              rw [app_cs]
              walk_at "go"
              refine ⟨some (.int (0 + (j : Nat))), some (.ref p3), _, ?_, (st.picks [0, 1] (by decide) (L' := [(bl, .lst bv), (l2, .lst (lnV LL))]) rfl)⟩
              rw [if_pos hj2]
              simp only [cs_S]
              rw [show cs "}" = [125] by decide +kernel]
              rfl
            · refine ⟨_, _, rfl, rfl, .inl ⟨by rw [decide_eq_false (show ¬ ((0 : Int) + (j : Nat) + 1 < (bv.length : Nat)) by omega)]; rfl, ?_⟩⟩
              refine i_addA (by simp only [cs_S, List.length_append, l5, show (cs "").length = 0 from rfl]; omega) ?_
              rw [app_cs]
              walk_at "go"
              refine ⟨some (.int (0 + (j : Nat))), some (.ref p3), _, ?_, (st.picks [0, 1] (by decide) (L' := [(bl, .lst bv), (l2, .lst (lnV LL))]) rfl)⟩
              rw [if_neg hj2]
              simp only [cs_S]
              rw [show cs "}" = [125] by decide +kernel, show cs "" = [] from rfl]
              rfl
          · rw [cwS_ne hb]
            refine ifF (decide_eq_false (by simp [hb, inD])) ?_
            have hj3 : j ≤ 2 := by omega
            have hc1 : LL.length ≤ 4000002 := Nat.le_trans hc1 (Nat.le_trans (Nat.mul_le_mul_right 2000001 hj3) (by decide))
            walk_at "go"
            refine st_newLB st (by simp) fun p5 np5 st => ?_
            refine st_catB st (st.at 1 rfl) (st.at 4 rfl) (by simp only [List.length_map, List.length_cons, List.length_nil]; omega) fun p6 H6 np6 e6 st => ?_
            walk_at "go"
            refine st_catB st (st.at 5 rfl) (st.at 2 rfl) (by simp only [List.length_append, List.length_map, List.length_cons, List.length_nil]; omega) fun p7 H7 np7 e7 st => ?_
            walk_at "go"
            refine i_addA (by simp only [cs_S, l5]; omega) ?_
            rw [app_cs]
            walk_at "go"
            refine i_lenL (st.sqL 0 rfl) ?_
            have st2 : Stt [] H0 [(bl, .lst bv), (p7, .lst (lnV (LL ++ [hd1] ++ inD (ind ++ [32, 32]) (pB b1))))] [fun H => DtAll K H bv (bs.map blkD)] H7 := by
              have := st.picks [0, 6] (by decide) (L' := [(bl, .lst bv), (p7, .lst (lnV LL ++ [.str (S hd1)] ++ lnV (inD (ind ++ [32, 32]) (pB b1))))]) rfl
              rw [show lnV (LL ++ [hd1] ++ inD (ind ++ [32, 32]) (pB b1)) = lnV LL ++ [.str (S hd1)] ++ lnV (inD (ind ++ [32, 32]) (pB b1)) by simp [lnV]]
              exact this
            walk_at "go"
            have hdec : ∀ {x : Prop}, True := fun {_} => trivial
            by_cases hj2 : j + 1 < bs.length
            · refine ⟨_, _, rfl, rfl, .inr ⟨by rw [decide_eq_true (show (0 : Int) + (j : Nat) + 1 < (bv.length : Nat) by omega)]; rfl, ?_⟩⟩
              refine i_addA (by simp only [cs_S, List.length_append, l5, l6]; omega) ?_
              rw [app_cs]
              walk_at "go"
              refine ⟨some (.int (0 + (j : Nat))), some (.ref p3), _, ?_, st2⟩
              rw [if_pos hj2]
              simp only [cs_S]
              rw [show cs "}" = [125] by decide +kernel]
              rfl
            · refine ⟨_, _, rfl, rfl, .inl ⟨by rw [decide_eq_false (show ¬ ((0 : Int) + (j : Nat) + 1 < (bv.length : Nat)) by omega)]; rfl, ?_⟩⟩
              refine i_addA (by simp only [cs_S, List.length_append, l5, show (cs "").length = 0 from rfl]; omega) ?_
              rw [app_cs]
              walk_at "go"
              refine ⟨some (.int (0 + (j : Nat))), some (.ref p3), _, ?_, st2⟩
              rw [if_neg hj2]
              simp only [cs_S]
              rw [show cs "}" = [125] by decide +kernel, show cs "" = [] from rfl]
              rfl
        · clear st
          rintro σ H ⟨s5, s6, l2, rfl, st⟩
          have hn : ((bv.length : Nat) : Int).toNat = bs.length := by omega
          rw [hn] at st
          have hc := hcw bs.length
          walk_at "go"
          refine st_newLB st (by simp) fun p5 np5 st => ?_
          have hc1 : (cwR ind (bs.map pB) h bs.length).1.length ≤ 4000002 := Nat.le_trans hc.1 (Nat.le_trans (Nat.mul_le_mul_right 2000001 hb2) (by decide))
          refine st_catB st (st.at 1 rfl) (st.at 2 rfl) (by
            simp only [List.length_map, List.length_cons, List.length_nil]; omega) fun p6 H6 np6 e6 st => ?_
          refine k p6 H6 (st.isNew 3 rfl) st.same ?_
          rw [st.at 3 rfl, ← hout]
          unfold cwO
          rw [List.length_map, hn]
          simp [lnV]
end
end Fb
namespace Fb
open PySem PySem.Spec PyProof.Rows L2 PySem.HandSPX SX
section
variable {P : Program} {w : World} {K : PySem.W.Frag} {mg : Str → Option Value} {base : Heap}
theorem law_lc (A : All K mg) (D : Nat) : ∀ d, Cal P w K mg base (D + 3 + 2 * d) "_law_compound" (spLwC K D d) ∧ Cal P w K mg base (D + 4 + 2 * d) "_law_lines" (spLwL K D d) := by
  have c_law_print := ok_law_print (P := P) (w := w) (base := base) A (D + 1)
  intro d
  induction d with
  | zero =>
    have h : Cal P w K mg base (D + 3) "_law_compound" (spLwC K D 0) := by
      refine Cal.mono (j := 1) ?_ (by omega)
      refine cal_of A.d_law_compound sc_law_compound (fun _ _ _ _ _ _ us hl => match us, hl with | [_, _], _ => rfl) (fun vs H Q E h => ?_) (fun f cdv A' outer s0 H0 vs Q E hr h => ?_)
      · obtain ⟨v, s, ind, rfl, _⟩ := h
        rfl
      · obtain ⟨v, s, ind, rfl, _, _, _, h, _⟩ := h
        exact h.elim
    exact ⟨h, ok_law_lines A (by omega) (c_law_print.mono (by omega)) h⟩
  | succ d ih =>
    have h := ok_law_compound A (lv := D + 4 + 2 * d) (by omega) (c_law_print.mono (by omega)) ih.2
    have h : Cal P w K mg base (D + 3 + 2 * (d + 1)) "_law_compound" (spLwC K D (d + 1)) := h.mono (by omega)
    exact ⟨h, (ok_law_lines A (by omega) (c_law_print.mono (by omega)) h).mono (by omega)⟩
theorem ok_law_script (A : All K mg) (D d : Nat) (hi : 0 + 2 * d ≤ 1000) : Cal P w K mg base (D + 5 + 2 * d) "_law_script" (spPrT2 K D d) := by
  have c_law_lines := (law_lc (P := P) (w := w) (base := base) A D d).2
  refine Cal.mono (j := D + 4 + 2 * d + 1) ?_ (by omega)
  refine cal_of A.d_law_script sc_law_script (fun _ _ _ _ _ _ us hl => match us, hl with | [_], _ => rfl) (fun vs H Q E h => ?_) (fun f cdv A' outer s H0 vs Q E hr h => ?_)
  · obtain ⟨v, b, rfl, _⟩ := h
    rfl
  · obtain ⟨v, b, rfl, hd, hL, hW, hB, hl, k⟩ := h
    refine ⟨_, (pss_one (ps_ret (k_bm (K := K) rfl PySem.F.plainAttrs_str PySem.F.slot_str_join PySem.F.type_str_join (k_joinQ (K := K) rfl) pe_str (pa_cons (pc c_law_lines hr (by omega) (pa_cons (pv 0) (pa_cons pe_str pa_nil))) pa_nil)))), ?_⟩
    walk_at "begin"
    refine i_tyS ?_
    walk_at "go"
    refine ⟨v, b, [], rfl, hd, hL, hW, hB, hi, fun p H1 np e1 hp => ?_⟩
    walk_at "go"
    have hp : H1 p = some (.lst (lnV (pB b))) := by rw [hp]; simp [inD]
    refine i_joinB (SqL.of hp) (by unfold pText at hl; omega) ?_
    rw [join_S, joinL_eq]
    exact k H1 e1
end
end Fb
namespace Fb
open PySem PySem.Spec PyProof.Rows L2 PySem.HandSPX SX
theorem le_oneS {a c : Nat} : (!decide (([c] : List Nat) < [a])) = decide (a ≤ c) := by
  rw [Bool.eq_iff_iff, Bool.not_eq_true', decide_eq_false_iff_not, decide_eq_true_iff]
  constructor
  · intro h
    by_cases hc : c < a
    · exact absurd (List.Lex.rel hc) h
    · omega
  · intro h1 h2
    cases h2 with
    | rel h => omega
    | cons h => cases h
theorem tkRun_len : ∀ (t : List Nat) (x : List (List Nat) × List Nat), (tkRun x t).1.length + (tkRun x t).2.length ≤ x.1.length + x.2.length + t.length
  | [], x => by simp [tkRun]
  | c :: t, x => by
    have ih := tkRun_len t (tkStep x c)
    have h1 : (tkStep x c).1.length + (tkStep x c).2.length ≤ x.1.length + x.2.length + 1 := by
      unfold tkStep
      by_cases hw : wdC c = true
      · rw [if_pos hw]; simp only [List.length_append, List.length_cons, List.length_nil]; omega
      · rw [if_neg hw]
        have hT : (if x.2 = [] then x.1 else x.1 ++ [x.2]).length ≤ x.1.length + x.2.length := by
          by_cases e : x.2 = []
          · rw [if_pos e]; omega
          · rw [if_neg e]
            have : 0 < x.2.length := List.length_pos_iff.mpr e
            simp only [List.length_append, List.length_cons, List.length_nil]; omega
        dsimp only
        generalize (if x.2 = [] then x.1 else x.1 ++ [x.2]) = T at hT
        by_cases hc : T ≠ [] ∧ c = 61 ∧ sigE (T.getLastD []) = true
        · rw [if_pos hc]
          simp only [List.length_append, List.length_dropLast, List.length_cons, List.length_nil]; omega
        · rw [if_neg hc]
          by_cases hs : c = 32 ∨ c = 10
          · rw [if_pos hs]; simp only [List.length_nil]; omega
          · rw [if_neg hs]; simp only [List.length_append, List.length_cons, List.length_nil]; omega
    show (tkRun (tkStep x c) t).1.length + (tkRun (tkStep x c) t).2.length ≤ _
    simp only [List.length_cons]
    omega
theorem S_decE {w : List Nat} : decide (S w = ("" : Str)) = decide (w = []) := by rw [show ("" : Str) = S [] by decide +kernel]; exact S_decB
def rLeS : R2 := fun x y H Q => ∃ i j, x = .str i ∧ y = .str j ∧ Q (.bl (!decide (j.cps.toList < i.cps.toList))) H
theorem btw {a b c : Nat} {z y : Str} {σ : L2.St} {H : Hp} {Q : VK} (hz : z = S [a]) (hy : y = S [b]) (q : Q (.bl (decide (a ≤ c) && decide (c ≤ b))) H) : rLeS (.str z) (.str (S [c])) H fun x H3 => ∃ k, x = .bl k ∧ (if k = true then tC (.str y) σ H3 fun w' H4 => rLeS (.str (S [c])) w' H4 Q else Q (.bl false) H3) := by
  subst hz hy
  refine ⟨_, _, rfl, rfl, _, rfl, ?_⟩
  rw [show (S [c]).cps.toList = [c] from rfl, show (S [a]).cps.toList = [a] from rfl, le_oneS]
  by_cases h1 : a ≤ c
  · rw [decide_eq_true h1] at q ⊢
    rw [if_pos rfl]
    refine ⟨_, _, rfl, rfl, ?_⟩
    rw [show (S [c]).cps.toList = [c] from rfl, show (S [b]).cps.toList = [b] from rfl, le_oneS]
    exact q
  · rw [decide_eq_false h1] at q ⊢
    rw [if_neg (by decide)]
    exact q
theorem i_chn {a b c : Nat} {z y : Str} {σ : L2.St} {H : Hp} {Q : VK} {te : TE} (hz : z = S [a]) (hy : y = S [b]) (h : ∀ N : VK, N (.str (S [c])) H → te σ H N) (q : Q (.bl (decide (a ≤ c) && decide (c ≤ b))) H) : tChain rLeS rLeS (tC (.str z)) te (tC (.str y)) σ H Q :=
  i_chain (i_c (h _ (btw hz hy q)))
def spLwT (K : PySem.W.Frag) : Sp := fun vs H Q _ => ∃ l : List Nat, vs = [.str (S l)] ∧ l.length ≤ 8000000 ∧ ∀ p H', H p = none → Same H H' → H' p = some (.lst (lnV (lawTok l))) → Q (.ref p) H'
section
variable {P : Program} {w : World} {K : PySem.W.Frag} {mg : Str → Option Value} {base : Heap}
set_option maxHeartbeats 0 in
theorem ok_law_tokens (A : All K mg) : Cal P w K mg base 1 "_law_tokens" (spLwT K) := by
  refine cal_of A.d_law_tokens sc_law_tokens (fun _ _ _ _ _ _ us hl => match us, hl with | [_], _ => rfl) (fun vs H Q E h => ?_) (fun f cdv A' outer s0 H0 vs Q E hr h => ?_)
  · obtain ⟨l, rfl, _⟩ := h
    rfl
  · obtain ⟨l, rfl, hl, k⟩ := h
    have hu64 := hr.units
    refine ⟨_, (pss_cons (ps_par (i := 1) (j := 2) (by rfl) sc_law_tokens.nd rfl rfl (by decide) rfl rfl (pa_cons (pe_lst pa_nil) (pa_cons pe_str pa_nil)) (by rfl))
 (pss_cons (ps_for PassesOwn.never rfl (pi_str (pe_op op_add_str (pv 0) pe_str)) (pg_name (i := 3) sc_law_tokens.nd rfl (Or.inl rfl))
 (pss_one (ps_if (PW.pt (pw_or (pt_chain op_le_str op_le_str pe_str (pv 3) pe_str) (pw_or1 (pt_chain op_le_str op_le_str pe_str (pv 3) pe_str)))) (pss_one (ps_set (i := 2) sc_law_tokens.nd rfl (Or.inl rfl) (pe_op op_add_str (pv 2) (pv 3)))) (pss_cons (ps_if (pt_cmpR op_ne (pv 2) pe_str (nomark _)) (pss_one (ps_expr (pe_bm PySem.F.plainAttrs_list PySem.F.slot_list_append PySem.F.type_list_append mt_append (pv 1) (pa_cons (pv 2) pa_nil)))) pss_nil)
 (pss_cons (ps_set (i := 2) sc_law_tokens.nd rfl (Or.inl rfl) pe_str)
 (pss_one (ps_if (PW.pt (pw_and (pt_cmpR (k_neN (K := K) rfl hu64) (pv 1) (pe_lst pa_nil) (nomark _)) (pw_and (pt_cmpR op_eq (pv 3) pe_str (nomark _)) (pw_and1 (pt_cmpR (k_in (K := K) rfl) (pe_ix (k_ixL (K := K) rfl) (pv 1) (pe_op op_sub pe_int pe_int) (fun _ _ => rfl)) (pe_tup (pa_cons pe_str (pa_cons pe_str (pa_cons pe_str pa_nil)))) (by rfl)))))) (pss_one (ps_asg (pe_op op_add_str (pe_ix (k_ixL (K := K) rfl) (pv 1) (pe_op op_sub pe_int pe_int) (fun _ _ => rfl)) pe_str) (pg_sub (pv 1) (pe_op op_sub pe_int pe_int) set_list))) (pss_one (ps_if (pt_cmpR op_notIn_sign (pv 3) pe_str (by rfl)) (pss_one (ps_expr (pe_bm PySem.F.plainAttrs_list PySem.F.slot_list_append PySem.F.type_list_append mt_append (pv 1) (pa_cons (pv 3) pa_nil)))) pss_nil)))))))))
 (pss_one (ps_ret (pv 1))))), ?_⟩
    have st : Stt [] H0 [] [] H0 := Stt.init H0
    have l0 : (cs " ").length = 1 := by decide +kernel
    walk_at "begin"
    refine st_newLB st (by simp) fun p np st => ?_
    walk_at "go"
    refine ⟨_, _, rfl, ?_⟩
    walk_at "go"
    refine i_addA (by simp only [cs_S, l0]; omega) ?_
    rw [app_cs, cs_S, show cs " " = [32] by decide +kernel]
    unfold lawTok at k
    have hl2 : (l ++ [32]).length ≤ 8000001 := by simp; omega
    generalize l ++ [32] = t at k hl2
    walk_at "go"
    refine ⟨S t, rfl, ForIt.go walk_str (fun j σ H => ∃ s3, σ = [some (.str (S l)), some (.ref p), some (.str (S (tkRun ([], []) (t.take j)).2)), s3] ∧ Stt [] H0 [(p, .lst (lnV (tkRun ([], []) (t.take j)).1))] [] H) ⟨_, rfl, (show Stt [] H0 [(p, .lst [])] [] _ from st)⟩ (fun _ _ _ _ _ => trivial) ?_ ?_⟩
    · clear st
      rintro j x σ H H' hj ⟨s3, rfl, st⟩ ⟨rfl, c, hc, rfl⟩
      have hc : t[j]? = some c := by simpa using hc
      have hj : j < t.length := by
        rcases Nat.lt_or_ge j t.length with h | h
        · exact h
        · rw [List.getElem?_eq_none h] at hc; cases hc
      have et : t.take (j + 1) = t.take j ++ [c] := by rw [List.take_succ, hc]; rfl
      rw [et, tkRun_app]
      have hX := tkRun_len (t.take j) ([], [])
      rw [List.length_take, Nat.min_eq_left (by omega)] at hX
      generalize tkRun ([], []) (t.take j) = X at st hX
      obtain ⟨T, wd⟩ := X
      have hX : T.length + wd.length ≤ 8000001 := by simp only [List.length_nil] at hX; omega
      rw [show (⟨#[c]⟩ : Str) = S [c] from rfl]
      refine i_name ?_
      refine i_if (i_or (i_test ?_))
      refine i_chn (a := 97) (b := 122) (c := c) (by decide +kernel) (by decide +kernel) (fun N q => i_var rfl q) ?_
      refine i_bl ?_
      have word : wdC c = true → ∃ s3, ([some (V.str (S l)), some (V.ref p), some (V.str (S (wd ++ [c]))), some (V.str (S [c]))] : L2.St) = [some (.str (S l)), some (.ref p), some (.str (S (tkRun (T, wd) [c]).2)), s3] ∧ Stt [] H0 [(p, .lst (lnV (tkRun (T, wd) [c]).1))] [] H' := fun hw => by
        show ∃ s3, _ = [_, _, some (V.str (S (tkStep (T, wd) c).2)), s3] ∧ Stt [] H0 [(p, .lst (lnV (tkStep (T, wd) c).1))] [] H'
        rw [show tkStep (T, wd) c = (T, wd ++ [c]) by unfold tkStep; rw [if_pos hw]]
        exact ⟨_, rfl, st⟩
      by_cases hL : letN c = true
      · refine ifT hL ?_
        rw [if_pos rfl]
        walk_at "go"
        refine i_addA (by simp only [cs_S, List.length_cons, List.length_nil]; omega) ?_
        rw [app_cs, cs_S, cs_S]
        walk_at "go"
        exact word (by unfold wdC; rw [hL]; rfl)
      have hL : letN c = false := by simpa using hL
      refine ifF hL ?_
      refine i_test ?_
      refine i_chn (a := 48) (b := 57) (c := c) (by decide +kernel) (by decide +kernel) (fun N q => i_var rfl q) ?_
      refine i_bl ?_
      by_cases hG : digN c = true
      · refine ifT hG ?_
        walk_at "go"
        refine i_addA (by simp only [cs_S, List.length_cons, List.length_nil]; omega) ?_
        rw [app_cs, cs_S, cs_S]
        walk_at "go"
        exact word (by unfold wdC; rw [hG]; cases letN c <;> rfl)
      have hG : digN c = false := by simpa using hG
      refine ifF hG ?_
      have hw : ¬ wdC c = true := by unfold wdC; rw [hL, hG]; decide
      clear word
      have e2 : tkRun (T, wd) [c] = tkStep (T, wd) c := rfl
      rw [e2]
      have e3 : tkStep (T, wd) c = (let T := if wd = [] then T else T ++ [wd]
          if T ≠ [] ∧ c = 61 ∧ sigE (T.getLastD []) = true then (T.dropLast ++ [T.getLastD [] ++ [61]], []) else if c = 32 ∨ c = 10 then (T, []) else (T ++ [[c]], [])) := by unfold tkStep; rw [if_neg hw]
      rw [e3]
      dsimp only
      clear e2 e3
      refine i_join (fun σ' H1 => σ' = [some (.str (S l)), some (.ref p), some (.str (S wd)), some (.str (S [c]))] ∧ Stt [] H0 [(p, .lst (lnV (if wd = [] then T else T ++ [wd])))] [] H1) (fun N J => ?_) ?_
      · walk_at "go"
        rw [S_decE]
        by_cases hwd : wd = []
        · refine ifF (by rw [hwd]; decide +kernel) ?_
          refine i_next ?_
          exact J _ _ ⟨rfl, by rw [if_pos hwd]; exact st⟩
        · refine ifT (by simp [hwd]) ?_
          walk_at "go"
          refine i_tyL (st.sqL 0 rfl) ?_
          walk_at "go"
          refine st_appendB st 0 rfl (by simp only [List.length_map]; omega) fun H2 st => ?_
          refine J _ _ ⟨rfl, ?_⟩
          rw [if_neg hwd]
          have e : lnV (T ++ [wd]) = lnV T ++ [.str (S wd)] := by simp [lnV]
          rw [e]
          exact st
      · have hT : (if wd = [] then T else T ++ [wd]).length ≤ 8000001 := by
          by_cases e : wd = []
          · rw [if_pos e]; omega
          · rw [if_neg e]
            have : 0 < wd.length := List.length_pos_iff.mpr e
            simp only [List.length_append, List.length_cons, List.length_nil]; omega
        generalize (if wd = [] then T else T ++ [wd]) = T at hT
        clear st hX hw hL hG
        rintro σ H1 ⟨rfl, st⟩
        walk_at "go"
        refine st_newLB st (by simp) fun p2 np2 st => ?_
        refine ⟨_, _, _, rfl, rfl, st.sqL 0 rfl, st.sqL 1 rfl, ?_⟩
        walk_at "go"
        have st := st.picks [0] (by decide) (L' := [(p, .lst (lnV T))]) rfl
        by_cases hT0 : T = []
        · refine ifF (show (!decide (lnV T = [])) = false by rw [hT0]; rfl) ?_
          refine ifF rfl ?_
          simp only [if_neg (show ¬ (T ≠ [] ∧ c = 61 ∧ sigE (T.getLastD []) = true) from fun q => q.1 hT0)]
          walk_at "go"
          refine ⟨c, _, rfl, rfl, ?_⟩
          have hz : decide (c ∈ (" \n" : Str).cps.toList) = decide (c = 32 ∨ c = 10) := by
            rw [show (" \n" : Str).cps.toList = [32, 10] by decide +kernel]
            simp
          rw [hz]
          refine i_bl ?_
          by_cases hs : c = 32 ∨ c = 10
          · refine ifF (by rw [decide_eq_true hs]; rfl) ?_
            walk_at "go"
            simp only [if_pos hs]
            exact ⟨_, rfl, st⟩
          · refine ifT (by rw [decide_eq_false hs]; rfl) ?_
            walk_at "go"
            refine i_tyL (st.sqL 0 rfl) ?_
            walk_at "go"
            refine st_appendB st 0 rfl (by simp only [List.length_map]; omega) fun H2 st => ?_
            simp only [if_neg hs]
            refine ⟨_, rfl, ?_⟩
            rw [show lnV (T ++ [[c]]) = lnV T ++ [.str (S [c])] by simp [lnV]]
            exact st
        · refine ifT (show (!decide (lnV T = [])) = true by rw [decide_eq_false (by simpa using hT0)]; rfl) ?_
          walk_at "go"
          rw [show decide (S [c] = ("=" : Str)) = decide (c = 61) by rw [show ("=" : Str) = S [61] by decide +kernel, S_decB]; simp]
          by_cases hc61 : c = 61
          · refine ifT (decide_eq_true hc61) ?_
            obtain ⟨U, x, rfl⟩ : ∃ U x, T = U ++ [x] := ⟨T.dropLast, T.getLast hT0, (List.dropLast_concat_getLast hT0).symm⟩
            have el : lnV (U ++ [x]) = lnV U ++ [.str (S x)] := by simp [lnV]
            rw [lastD_snoc, List.dropLast_concat]
            rw [el] at st
            walk_at "go"
            refine i_ixL (st.sqL 0 rfl) atI_lastS ?_
            walk_at "go"
            refine st_newT K st (by simp) fun p3 np3 st => ?_
            have hp3 : TupAt K (upd _ p3 (.tup [V.str "<", V.str ">", V.str "!"])) p3 ((["<", ">", "!"] : List Str).map V.str) := st.pers 0 rfl
            refine i_inTs hp3.sq ?_
            have hsg : decide (S x ∈ (["<", ">", "!"] : List Str)) = sigE x := by
              rw [show (["<", ">", "!"] : List Str) = [S [60], S [62], S [33]] by decide +kernel]
              unfold sigE
              rw [← S_decB, ← S_decB, ← S_decB]
              simp [Bool.or_assoc]
            rw [if_neg (show ¬ (false = true) by decide), hsg]
            refine i_bl ?_
            have st := st.forget
            by_cases hsx : sigE x = true
            · refine ifT hsx ?_
              have hx : x.length = 1 := by
                unfold sigE at hsx
                simp only [Bool.or_eq_true, decide_eq_true_eq] at hsx
                rcases hsx with (rfl | rfl) | rfl <;> rfl
              simp only [if_pos (show U ++ [x] ≠ [] ∧ c = 61 ∧ sigE x = true from ⟨hT0, hc61, hsx⟩)]
              walk_at "go"
              refine i_ixL (st.sqL 0 rfl) atI_lastS ?_
              refine i_addA (by simp only [cs_S, hx, show (cs "=").length = 1 by decide +kernel]; omega) ?_
              rw [app_cs, cs_S, show cs "=" = [61] by decide +kernel]
              walk_at "go"
              refine st_setL st 0 rfl (j := (lnV U).length) (by simp only [List.length_append, List.length_cons, List.length_nil]; unfold ixN; simp; omega) fun H2 st => ?_
              refine ⟨_, rfl, ?_⟩
              rw [show lnV (U ++ [x ++ [61]]) = (lnV U ++ [V.str (S x)]).set (lnV U).length (.str (S (x ++ [61]))) by simp [lnV]]
              exact st
            · refine ifF (by simpa using hsx) ?_
              simp only [if_neg (show ¬ (U ++ [x] ≠ [] ∧ c = 61 ∧ sigE x = true) from fun q => hsx q.2.2)]
              walk_at "go"
              refine ⟨c, _, rfl, rfl, ?_⟩
              have hz : decide (c ∈ (" \n" : Str).cps.toList) = decide (c = 32 ∨ c = 10) := by
                rw [show (" \n" : Str).cps.toList = [32, 10] by decide +kernel]
                simp
              rw [hz]
              refine i_bl ?_
              by_cases hs : c = 32 ∨ c = 10
              · refine ifF (by rw [decide_eq_true hs]; rfl) ?_
                walk_at "go"
                simp only [if_pos hs]
                exact ⟨_, rfl, by rw [el]; exact st⟩
              · refine ifT (by rw [decide_eq_false hs]; rfl) ?_
                walk_at "go"
                refine i_tyL (st.sqL 0 rfl) ?_
                walk_at "go"
                refine st_appendB st 0 rfl (by simp only [List.length_map, List.length_append, List.length_cons, List.length_nil] at hT ⊢; omega) fun H2 st => ?_
                simp only [if_neg hs]
                refine ⟨_, rfl, ?_⟩
                rw [show lnV ((U ++ [x]) ++ [[c]]) = (lnV U ++ [V.str (S x)]) ++ [.str (S [c])] by simp [lnV]]
                exact st
          · refine ifF (decide_eq_false hc61) ?_
            refine ifF rfl ?_
            simp only [if_neg (show ¬ (T ≠ [] ∧ c = 61 ∧ sigE (T.getLastD []) = true) from fun q => hc61 q.2.1)]
            walk_at "go"
            refine ⟨c, _, rfl, rfl, ?_⟩
            have hz : decide (c ∈ (" \n" : Str).cps.toList) = decide (c = 32 ∨ c = 10) := by
              rw [show (" \n" : Str).cps.toList = [32, 10] by decide +kernel]
              simp
            rw [hz]
            refine i_bl ?_
            by_cases hs : c = 32 ∨ c = 10
            · refine ifF (by rw [decide_eq_true hs]; rfl) ?_
              walk_at "go"
              simp only [if_pos hs]
              exact ⟨_, rfl, st⟩
            · refine ifT (by rw [decide_eq_false hs]; rfl) ?_
              walk_at "go"
              refine i_tyL (st.sqL 0 rfl) ?_
              walk_at "go"
              refine st_appendB st 0 rfl (by simp only [List.length_map]; omega) fun H2 st => ?_
              simp only [if_neg hs]
              refine ⟨_, rfl, ?_⟩
              rw [show lnV (T ++ [[c]]) = lnV T ++ [.str (S [c])] by simp [lnV]]
              exact st
    · rintro σ H ⟨s3, rfl, st⟩
      walk_at "go"
      refine k p H (st.isNew 0 rfl) st.same ?_
      rw [st.at 0 rfl, show (S t).cps.size = t.length by simp, List.take_length]
end
end Fb
namespace Fb
open PySem PySem.Spec PyProof.Rows L2 PySem.HandSPX SX
theorem sub_sign : ∀ t ∈ signsL, ∀ i < 4, i + t.length ≤ 3 → Builtin.Str.subAt (S [60, 62, 33]) (S t) i = true → sigE t = true := by decide +kernel
theorem in_sig {t : List Nat} (g : tokG t) : (!(Builtin.Str.occurrences ("<>!" : Str) (S t) 0 ("<>!" : Str).length 1).isEmpty) = sigE t := by
  rw [show ("<>!" : Str) = S [60, 62, 33] by decide +kernel]
  rw [Bool.eq_iff_iff, StrLaws.found_iff, S_len, S_len]
  constructor
  · rintro ⟨i, hi, h⟩
    have hw : ∀ c r, t = c :: r → wdC c = true → False := by
      rintro c r rfl hc
      have h1 : ([60, 62, 33] : List Nat)[i]? = some c := by
        unfold Builtin.Str.subAt at h
        have h := congrArg (fun a : Array Nat => a.toList[0]?) (eq_of_beq h)
        simp only [List.length_cons, List.length_nil] at hi
        have hi3 : i = 0 ∨ i = 1 ∨ i = 2 := by omega
        rw [S_len, List.length_cons] at h
        rcases hi3 with rfl | rfl | rfl
        all_goals simpa using h
      have hc2 : c = 60 ∨ c = 62 ∨ c = 33 := by
        have := List.mem_of_getElem? h1
        simpa using this
      rcases hc2 with rfl | rfl | rfl <;> revert hc <;> decide
    rcases g with g | g | g
    · obtain ⟨c, r, rfl⟩ : ∃ c r, t = c :: r := by cases t with | nil => exact absurd g.2.1 (by simp) | cons c r => exact ⟨c, r, rfl⟩
      exact (hw c r rfl (by unfold wdC; rw [(List.all_cons ▸ g.1 : (letN c && r.all letN) = true) |> Bool.and_eq_true_iff.mp |>.1]; rfl)).elim
    · obtain ⟨c, r, rfl⟩ : ∃ c r, t = c :: r := by cases t with | nil => exact absurd g.2.1 (by simp) | cons c r => exact ⟨c, r, rfl⟩
      exact (hw c r rfl (by unfold wdC; rw [(List.all_cons ▸ g.1 : (digN c && r.all digN) = true) |> Bool.and_eq_true_iff.mp |>.1]; cases letN c <;> rfl)).elim
    · exact sub_sign t g i (by simp only [List.length_cons, List.length_nil] at hi; omega) hi h
  · intro h
    unfold sigE at h
    simp only [Bool.or_eq_true, decide_eq_true_eq] at h
    rcases h with (rfl | rfl) | rfl
    · exact ⟨0, by decide, by decide +kernel⟩
    · exact ⟨1, by decide, by decide +kernel⟩
    · exact ⟨2, by decide, by decide +kernel⟩
def spLwG (K : PySem.W.Frag) : Sp := fun vs H Q _ => ∃ one other : List Nat, vs = [.str (S one), .str (S other)] ∧ tokG one ∧ tokG other ∧ Q (.bl (gluT one other)) H
theorem tokG_len {t : List Nat} (g : tokG t) : t.length ≤ 18 := by
  rcases g with g | g | g
  · have := g.2.2; omega
  · have := g.2.2.1; omega
  · revert t; unfold signsL; decide
theorem i_chn2 {a b x y : Nat} {z z' : Str} {σ : L2.St} {H : Hp} {Q : VK} {te te' : TE} (hz : z = S [a]) (hz' : z' = S [b]) (h : ∀ N : VK, N (.str (S [x])) H → te σ H N) (h' : ∀ N : VK, N (.str (S [y])) H → te' σ H N) (q : Q (.bl ((decide (a ≤ x) && decide (x ≤ b)) && (decide (a ≤ y) && decide (y ≤ b)))) H) : tAndV (tChain rLeS rLeS (tC (.str z)) te (tC (.str z'))) (tChain rLeS rLeS (tC (.str z)) te' (tC (.str z'))) σ H Q := by
  refine i_andV (i_chn hz hz' h ⟨_, rfl, ?_⟩)
  cases e : (decide (a ≤ x) && decide (x ≤ b)) with
  | true =>
    rw [e] at q
    rw [if_pos rfl]
    exact i_chn hz hz' h' (by rwa [Bool.true_and] at q)
  | false =>
    rw [e, Bool.false_and] at q
    rw [if_neg (by decide)]
    exact q
section
variable {P : Program} {w : World} {K : PySem.W.Frag} {mg : Str → Option Value} {base : Heap}
set_option maxHeartbeats 0 in
theorem ok_law_glues (A : All K mg) : Cal P w K mg base 1 "_law_glues" (spLwG K) := by
  refine cal_of A.d_law_glues sc_law_glues (fun _ _ _ _ _ _ us hl => match us, hl with | [_, _], _ => rfl) (fun vs H Q E h => ?_) (fun f cdv A' outer s0 H vs Q E hr h => ?_)
  · obtain ⟨one, other, rfl, _⟩ := h
    rfl
  · obtain ⟨one, other, rfl, g1, g2, k⟩ := h
    refine ⟨_, (pss_cons (ps_set (i := 2) sc_law_glues.nd rfl (Or.inl rfl) (pe_and (pe_chain op_le_str op_le_str pe_str (pe_ix ix_str (pv 0) pe_int (fun _ _ => rfl)) pe_str) (pe_one (pe_chain op_le_str op_le_str pe_str (pe_ix ix_str (pv 1) pe_int (fun _ _ => rfl)) pe_str))))
 (pss_cons (ps_set (i := 3) sc_law_glues.nd rfl (Or.inl rfl) (pe_and (pe_chain op_le_str op_le_str pe_str (pe_ix ix_str (pv 0) pe_int (fun _ _ => rfl)) pe_str) (pe_one (pe_chain op_le_str op_le_str pe_str (pe_ix ix_str (pv 1) pe_int (fun _ _ => rfl)) pe_str))))
 (pss_one (ps_ret (pe_or (pv 2) (pe_or (pv 3) (pe_one (pe_and (pe_cmpR op_in_str (pv 0) pe_str (by rfl)) (pe_one (pe_cmpR op_eq (pe_ix ix_str (pv 1) pe_int (fun _ _ => rfl)) pe_str (nomark _))))))))))), ?_⟩
    (try (dsimp only [L2.cxOf, L2.Cx.nox, L2.Cx.wish, L2.Cx.blk]))
    obtain ⟨a, r, rfl⟩ := tokG_ne g1
    obtain ⟨c, r', rfl⟩ := tokG_ne g2
    have n1 := tokG_len g1
    have n2 := tokG_len g2
    have ix0 : ∀ {σ : L2.St} {i : Nat} {x : Nat} {l : List Nat} (N : VK), σ[i]? = some (some (.str (S (x :: l)))) → (x :: l).length ≤ 18 → N (.str (S [x])) H → tOp rIxS (tVar i) (tC (.int 0)) σ H N := fun {σ i x l} N hσ hl q => i_op (i_var hσ (i_c (i_ixSB (l := x :: l) (j := 0) (by omega) rfl q)))
    refine i_seq (i_asg ?_)
    refine i_chn2 (a := 97) (b := 122) (x := a) (y := c) (by decide +kernel) (by decide +kernel) (fun N q => ix0 N rfl n1 q) (fun N q => ix0 N rfl n2 q) ?_
    refine i_name ?_
    refine i_seq (i_asg ?_)
    refine i_chn2 (a := 48) (b := 57) (x := a) (y := c) (by decide +kernel) (by decide +kernel) (fun N q => ix0 N rfl n1 q) (fun N q => ix0 N rfl n2 q) ?_
    refine i_name ?_
    have hk : gluT (a :: r) (c :: r') = ((letN a && letN c) || ((digN a && digN c) || (sigE (a :: r) && decide (c = 61)))) := by
      show ((letN a && letN c || digN a && digN c) || sigE (a :: r) && decide (c = 61)) = _
      rw [Bool.or_assoc]
    rw [hk] at k
    clear hk
    have e1 : (decide (97 ≤ a) && decide (a ≤ 122) && (decide (97 ≤ c) && decide (c ≤ 122))) = (letN a && letN c) := rfl
    have e2 : (decide (48 ≤ a) && decide (a ≤ 57) && (decide (48 ≤ c) && decide (c ≤ 57))) = (digN a && digN c) := rfl
    rw [e1, e2]
    generalize (letN a && letN c) = b1 at k
    generalize (digN a && digN c) = b2 at k
    refine i_ret ?_
    refine i_orV (i_var rfl ⟨_, rfl, ?_⟩)
    cases b1 with
    | true => rw [if_pos rfl]; exact k
    | false =>
      rw [if_neg (by decide)]
      refine i_orV (i_var rfl ⟨_, rfl, ?_⟩)
      cases b2 with
      | true => rw [if_pos rfl]; exact k
      | false =>
        rw [if_neg (by decide)]
        refine i_andV (i_op (i_var rfl (i_c ?_)))
        refine ⟨_, _, rfl, rfl, ?_⟩
        rw [in_sig g1]
        refine ⟨_, rfl, ?_⟩
        cases b3 : sigE (a :: r) with
        | false =>
          rw [b3] at k
          rw [if_neg (by decide)]
          exact k
        | true =>
          rw [b3] at k
          rw [if_pos rfl]
          refine i_op (ix0 _ rfl n2 (i_c ?_))
          walk_at "go"
          rw [show ("=" : Str) = S [61] by decide +kernel, S_decB]
          rw [show decide ([c] = [61]) = decide (c = 61) by simp]
          exact k
end
end Fb
namespace Fb
open PySem PySem.Spec PyProof.Rows L2 PySem.HandSPX SX
def spLwM (K : PySem.W.Frag) : Sp := fun vs H Q _ => ∃ (h a tk : Addr) (ts : List (List Nat)), vs = [.ref h, .ref tk] ∧ Dr K H h a ∧ tk ≠ h ∧ H tk = some (.lst (lnV ts)) ∧ (∀ t ∈ ts, tokG t) ∧ (ts.map List.length).sum + 11 * ts.length ≤ 14000000 ∧
  ∀ ps e H', mzOk [] ps → ps.map (·.2) = ts → e ∈ endsL → (mzT ps ++ e).length ≤ 14000005 → ExB [h] H H' → Dr K H' h a → Q (.str (S (mzT ps ++ e))) H'
def G12 : List Str := ["", "", "", "", " ", " ", "  ", "\n", "\n  ", " # let ; {\n", "#\n", "\n# if }\n"]
theorem G12_ok : ∀ z ∈ G12, cs z ∈ gapsL := by decide +kernel
def E4 : List Str := ["", "\n", " ", "# end"]
theorem E4_ok : ∀ z ∈ E4, cs z ∈ endsL := by decide +kernel
theorem gap_len : ∀ g ∈ gapsL, g.length ≤ 11 := by decide
theorem end_len : ∀ g ∈ endsL, g.length ≤ 5 := by decide
theorem sum_take {ts : List (List Nat)} {j : Nat} {t : List Nat} (h : ts[j]? = some t) : ((ts.take (j + 1)).map List.length).sum = ((ts.take j).map List.length).sum + t.length := by
  rw [List.take_succ, h, List.map_append, List.sum_append]
  simp
theorem sum_take_le (ts : List (List Nat)) (j : Nat) : ((ts.take j).map List.length).sum ≤ (ts.map List.length).sum := by
  conv => rhs; rw [← List.take_append_drop j ts]
  rw [List.map_append, List.sum_append]
  omega
section
variable {P : Program} {w : World} {K : PySem.W.Frag} {mg : Str → Option Value} {base : Heap}
set_option maxHeartbeats 0 in
theorem ok_law_messy (A : All K mg) (c_law_drawn : Cal P w K mg base 1 "_law_drawn" (spDrawn K)) : Cal P w K mg base 2 "_law_messy" (spLwM K) := by
  have c_law_glues := ok_law_glues (P := P) (w := w) (base := base) A
  refine cal_of A.d_law_messy sc_law_messy (fun _ _ _ _ _ _ us hl => match us, hl with | [_, _], _ => rfl) (fun vs H Q E h => ?_) (fun f cdv A' outer s0 H0 vs Q E hr h => ?_)
  · obtain ⟨h, a, tk, ts, rfl, _⟩ := h
    rfl
  · obtain ⟨h, a, tk, ts, rfl, dr, hne, htk, hg, hz, k⟩ := h
    obtain ⟨i, m, r, st, hS⟩ := dr.start
    refine ⟨_, (pss_cons (ps_asg (pe_tup (pa_cons pe_str (pa_cons pe_str pa_nil))) (k_tg (K := K) (n := 2) rfl rfl (pgs_cons (pg_name (i := 2) sc_law_messy.nd rfl (Or.inl rfl)) (pgs_cons (pg_name (i := 3) sc_law_messy.nd rfl (Or.inl rfl)) pgs_nil))))
 (pss_cons (ps_for PassesOwn.never rfl (k_pl (K := K) rfl (pv 1)) (pg_name (i := 4) sc_law_messy.nd rfl (Or.inl rfl))
 (pss_cons (ps_set (i := 5) sc_law_messy.nd rfl (Or.inl rfl) (pc c_law_drawn hr (by omega) (pa_cons (pv 0) (pa_cons pe_int pa_nil))))
 (pss_cons (ps_set (i := 6) sc_law_messy.nd rfl (Or.inl rfl) (pe_ix (k_ixL (K := K) rfl) (pe_lst (pa_cons pe_str (pa_cons pe_str (pa_cons pe_str (pa_cons pe_str (pa_cons pe_str (pa_cons pe_str (pa_cons pe_str (pa_cons pe_str (pa_cons pe_str (pa_cons pe_str (pa_cons pe_str (pa_cons pe_str pa_nil))))))))))))) (pv 5) (fun _ _ => rfl)))
 (pss_cons (ps_if (PW.pt (pw_and (pt_cmpR op_eq (pv 6) pe_str (nomark _)) (pw_and (pt_cmpR op_ne (pv 3) pe_str (nomark _)) (pw_and1 (pt_val (pc c_law_glues hr (by omega) (pa_cons (pv 3) (pa_cons (pv 4) pa_nil)))))))) (pss_one (ps_set (i := 6) sc_law_messy.nd rfl (Or.inl rfl) pe_str)) pss_nil)
 (pss_one (ps_par (i := 2) (j := 3) (by rfl) sc_law_messy.nd rfl rfl (by decide) rfl rfl (pa_cons (pe_op op_add_str (pe_op op_add_str (pv 2) (pv 6)) (pv 4)) (pa_cons (pv 4) pa_nil)) (by rfl)))))))
 (pss_one (ps_ret (pe_op op_add_str (pv 2) (pe_ix (k_ixL (K := K) rfl) (pe_lst (pa_cons pe_str (pa_cons pe_str (pa_cons pe_str (pa_cons pe_str pa_nil))))) (pc c_law_drawn hr (by omega) (pa_cons (pv 0) (pa_cons pe_int pa_nil))) (fun _ _ => rfl))))))), ?_⟩
    (try (dsimp only [L2.cxOf, L2.Cx.nox, L2.Cx.wish, L2.Cx.blk]))
    walk_at "go"
    refine ⟨sz_of (by simp), fun p np => ?_⟩
    have st := st.ext (Same.new (o := .tup [.str "", .str ""]) np)
    walk_at "go"
    refine i_gtup (xs := [.str "", .str ""]) (SqT.of upd_same) rfl ?_
    walk_at "go"
    have hT : ∀ {L : List (Addr × HO)} {P : List (Hp → Prop)} {H : Hp}, Stt [h] H0 L P H → SqL K H tk (lnV ts) := fun st => SqL.of (st.ex _ _ (by simpa using hne) htk)
    refine ⟨tk, rfl, ⟨_, hT st⟩, ForIt.go (walk_list (xs := lnV ts)) (fun j σ H => ∃ (ps : List (List Nat × List Nat)) (i : Nat) (m r : Int) (s4 s5 s6 : Option V), σ = [some (.ref h), some (.ref tk), some (.str (S (mzT ps))), some (.str (S ((ps.map (·.2)).getLastD []))), s4, s5, s6] ∧ mzOk [] ps ∧ ps.map (·.2) = ts.take j ∧ (mzT ps).length ≤ ((ts.take j).map List.length).sum + 11 * j ∧ Stt [h] H0 (dL h a i m r []) [] H) ⟨[], i, m, r, _, _, _, rfl, trivial, rfl, Nat.zero_le _, st⟩ (fun j σ H _ q => ?_) ?_ ?_⟩
    · obtain ⟨_, _, _, _, _, _, _, _, _, _, _, st⟩ := q
      exact hT st
    · clear st
      rintro j x σ H H' hj ⟨ps, i, m, r, s4, s5, s6, rfl, hm, hps, hml, st⟩ ⟨rfl, hx⟩
      rw [List.length_map] at hj
      obtain ⟨t, ht, rfl⟩ : ∃ t, ts[j]? = some t ∧ V.str (S t) = x := by
        have hx : (lnV ts)[j]? = some x := hx
        rw [List.getElem?_map] at hx
        cases e : ts[j]? with
        | none => rw [e] at hx; cases hx
        | some t => rw [e] at hx; exact ⟨t, rfl, Option.some.inj hx⟩
      have gt := hg t (List.mem_of_getElem? ht)
      have hsum := sum_take ht
      have hsle := sum_take_le ts (j + 1)
      have etk : ts.take (j + 1) = ts.take j ++ [t] := by rw [List.take_succ, ht]; rfl
      walk_at "go"
      refine st_drawn st hS (by decide) (by decide) fun z i m r H z0 z1 st => ?_
      walk_at "go"
      refine st_newL st (by simp) fun gl ngl st => ?_
      walk_at "go"
      have hzl : z.toNat < G12.length := by show z.toNat < 12; omega
      refine i_ixL (xs := G12.map V.str) (v := .str G12[z.toNat]) (SqL.of (st.own (gl, .lst (G12.map V.str)) (by simp [dL, G12]))) (atI_int z0 (by rw [List.getElem?_map, List.getElem?_eq_getElem hzl]; rfl)) ?_
      have hgap := G12_ok _ (List.getElem_mem hzl)
      generalize G12[z.toNat] = g at hgap
      obtain ⟨gp, rfl⟩ : ∃ gp, g = S gp := ⟨cs g, (S_cs g).symm⟩
      rw [cs_S] at hgap
      have st : Stt [h] H0 (dL h a i m r []) [] _ := Stt.drops (N := [(gl, _)]) st
      refine i_name ?_
      generalize hbf : (ps.map (·.2)).getLastD [] = bf
      have hbft : bf ≠ [] → tokG bf := by
        intro hb
        rcases List.eq_nil_or_concat ps with rfl | ⟨qs, q, rfl⟩
        · exact absurd hbf.symm hb
        · rw [List.concat_eq_append, List.map_append, List.map_cons, List.map_nil, lastD_snoc] at hbf
          rw [← hbf]
          have : q.2 ∈ ts.take j := by rw [← hps]; simp
          exact hg _ (List.mem_of_mem_take this)
      refine i_join (fun σ' H1 => ∃ g2 : List Nat, σ' = [some (.ref h), some (.ref tk), some (.str (S (mzT ps))), some (.str (S bf)), some (.str (S t)), some (.int z), some (.str (S g2))] ∧ g2 ∈ gapsL ∧ (g2 = [] → bf ≠ [] → gluT bf t = false) ∧ Stt [h] H0 (dL h a i m r []) [] H1) (fun N J => ?_) ?_
      · walk_at "go"
        rw [S_decE]
        by_cases hg0 : gp = []
        · refine ifT (decide_eq_true hg0) ?_
          walk_at "go"
          rw [S_decE]
          by_cases hb0 : bf = []
          · refine ifF (by rw [decide_eq_true hb0]; rfl) ?_
            refine ifF rfl ?_
            refine i_next ?_
            exact J _ _ ⟨gp, rfl, hgap, fun _ q => absurd hb0 q, st⟩
          · refine ifT (by rw [decide_eq_false hb0]; rfl) ?_
            walk_at "go"
            refine ⟨bf, t, rfl, hbft hb0, gt, ?_⟩
            refine ⟨_, rfl, ?_⟩
            cases hgl : gluT bf t with
            | true =>
              rw [if_pos rfl]
              walk_at "go"
              refine J _ _ ⟨[32], ?_, by decide, fun q => absurd q (by decide), st⟩
              rw [show (S [32]) = (" " : Str) by decide +kernel]
              rfl
            | false =>
              rw [if_neg (by decide)]
              refine i_next ?_
              exact J _ _ ⟨gp, rfl, hgap, fun _ _ => hgl, st⟩
        · refine ifF (decide_eq_false hg0) ?_
          refine ifF rfl ?_
          refine i_next ?_
          exact J _ _ ⟨gp, rfl, hgap, fun q => absurd q hg0, st⟩
      · clear st hgap
        rintro σ H1 ⟨g2, rfl, hgap, hglu, st⟩
        have hgl := gap_len g2 hgap
        have tl := tokG_len gt
        walk_at "go"
        refine i_addB (by omega) ?_
        rw [S_app]
        walk_at "go"
        refine i_addB (by rw [List.length_append]; omega) ?_
        rw [S_app]
        walk_at "go"
        refine ⟨_, _, rfl, ?_⟩
        refine ⟨ps ++ [(g2, t)], i, m, r, some (.str (S t)), some (.int z), some (.str (S g2)), ?_, mzOk_snoc hm hgap gt (by rw [hbf]; exact hglu), by rw [List.map_append, hps, etk]; rfl, ?_, st⟩
        · rw [mzT_snoc, List.map_append, List.map_cons, List.map_nil, lastD_snoc]
          rfl
        · rw [mzT_snoc, hsum, List.length_append, List.length_append]
          omega
    · clear st
      rintro σ H ⟨ps, i, m, r, s4, s5, s6, rfl, hm, hps, hml, st⟩
      rw [List.length_map] at hps hml
      rw [List.take_length] at hps hml
      refine i_ret (i_op (i_var rfl ?_))
      refine st_pickS (zs := E4) hS st rfl (by decide) (by decide) (fun N q => by walk_at "go"; exact q) fun z hz i m r H st => ?_
      have he := E4_ok z hz
      obtain ⟨e, rfl⟩ : ∃ e, z = S e := ⟨cs z, (S_cs z).symm⟩
      rw [cs_S] at he
      have hel := end_len e he
      refine i_addB (by omega) ?_
      rw [S_app]
      exact k ps e H hm hps he (by rw [List.length_append]; omega) st.exB (st.dr hS)
end
end Fb
namespace Fb
open PySem PySem.Spec PyProof.Rows L2 PySem.HandSPX SX
def spLwW (K : PySem.W.Frag) (D : Nat) : Sp := fun vs H Q _ => ∃ (h a : Addr) (v : V) (e : Ex), vs = [.ref h, v] ∧ Dr K H h a ∧ Dt K H v (exD e) ∧ exL e ∧ e.dp < D ∧ D ≤ 10 ∧ ∀ t ts H', RnT t (csL ts) → TkR (3 * e.dp + 2) e.lv e ts → t.length + 11 ≤ 31 * 2 ^ e.dp → ExB [h] H H' → Dr K H' h a → Q (.str (S t)) H'
def spLwO (K : PySem.W.Frag) (D : Nat) : Sp := fun vs H Q _ => ∃ (h a : Addr) (v : V) (e : Ex) (l : Nat), vs = [.ref h, v, .int (l : Nat)] ∧ (l = 1 ∨ l = 2 ∨ l = 3) ∧ Dr K H h a ∧ Dt K H v (exD e) ∧ exL e ∧ e.dp < D ∧ D ≤ 10 ∧ ∀ t ts H', RnT t (csL ts) → TkR (3 * e.dp + 3) l e ts → t.length + 9 ≤ 31 * 2 ^ e.dp → ExB [h] H H' → Dr K H' h a → Q (.str (S t)) H'
theorem TkR.down {f k : Nat} {e : Ex} {ts : List Str} (h : TkR f k e ts) {l : Nat} (hl : l = 1 ∨ l = 2 ∨ l = 3) (hk : k = 1 ∨ k = 2 ∨ k = 3) (h1 : l ≤ k) : TkR f l e ts := by
  rcases hk with rfl | rfl | rfl
  · obtain rfl : l = 1 := by omega
    exact h
  · rcases hl with rfl | rfl | rfl
    · exact .up1 h
    · exact h
    · omega
  · exact h.to hl
theorem lv_3 (e : Ex) : e.lv = 1 ∨ e.lv = 2 ∨ e.lv = 3 := by
  cases e <;> simp [Ex.lv]
  rename_i o _ _
  cases o <;> simp [Op.lv]
theorem par_rn {t : List Nat} {ts : List Str} (h : RnT t (csL ts)) : RnT ([40] ++ t ++ [41]) (csL ("(" :: (ts ++ ([")"] : List Str)))) := by
  have := parL_rn (b := true) h
  unfold parL parT at this
  simpa using this
theorem pow_le10 {d : Nat} (h : d < 10) : 31 * 2 ^ d ≤ 31 * 512 := Nat.mul_le_mul_left _ (Nat.pow_le_pow_right (n := 2) (by decide) (show d ≤ 9 by omega))
section
variable {P : Program} {w : World} {K : PySem.W.Frag} {mg : Str → Option Value} {base : Heap}
theorem ok_law_wrapped_operand (A : All K mg) {D lv : Nat} (hlv : 1 ≤ lv) (c_law_wrapped : Cal P w K mg base lv "_law_wrapped" (spLwW K D)) : Cal P w K mg base (lv + 1) "_law_wrapped_operand" (spLwO K D) := by
  have c_law_level := ok_law_level (P := P) (w := w) (base := base) A
  refine cal_of A.d_law_wrapped_operand sc_law_wrapped_operand (fun _ _ _ _ _ _ us hl => match us, hl with | [_, _, _], _ => rfl) (fun vs H Q E h => ?_) (fun f cdv A' outer s0 H0 vs Q E hr h => ?_)
  · obtain ⟨h, a, v, e, l, rfl, _⟩ := h
    rfl
  · obtain ⟨h, a, v, e, l, rfl, hl, dr, dv, hL, hdp, hD, k⟩ := h
    obtain ⟨i, m, r, st, hS⟩ := dr.start
    have st := st.know dv Pers.dt
    have hpw := pow_le10 (d := e.dp) (by omega)
    refine ⟨_, (pss_cons (ps_set (i := 3) sc_law_wrapped_operand.nd rfl (Or.inl rfl) (pc c_law_wrapped hr (by omega) (pa_cons (pv 0) (pa_cons (pv 1) pa_nil))))
 (pss_one (ps_ret (pe_ifExp (pt_cmpR op_ge (pc c_law_level hr (by omega) (pa_cons (pv 1) pa_nil)) (pv 2) (nomark _)) (pv 3) (pe_op op_add_str (pe_op op_add_str pe_str (pv 3)) pe_str))))), ?_⟩
    (try (dsimp only [L2.cxOf, L2.Cx.nox, L2.Cx.wish, L2.Cx.blk]))
    walk_at "go"
    refine ⟨h, a, v, e, rfl, st.dr hS, st.pers 0 rfl, hL, hdp, hD, fun t ts H1 hrn htk hlen ex dr' => ?_⟩
    obtain ⟨i', m', r', st⟩ := st.drn ex dr'
    walk_at "go"
    refine ⟨v, e, rfl, st.pers 0 rfl, fun H2 s2 => ?_⟩
    have st := st.ext s2
    walk_at "go"
    by_cases hle : l ≤ e.lv
    · refine ifT (decide_eq_true (by omega)) ?_
      walk_at "go"
      exact k t ts H2 hrn ((htk.down hl (lv_3 e) hle).mono (by omega)) (by omega) st.exB (st.dr hS)
    · refine ifF (decide_eq_false (by omega)) ?_
      walk_at "go"
      rw [z_lp, z_rp]
      refine i_addB (by simp only [List.length_cons, List.length_nil]; omega) ?_
      rw [S_app]
      walk_at "go"
      refine i_addB (by simp only [List.length_cons, List.length_nil, List.length_append]; omega) ?_
      rw [S_app]
      exact k _ _ H2 (par_rn hrn) (.to (.par (htk.down (.inl rfl) (lv_3 e) (by rcases lv_3 e with q | q | q <;> omega))) hl) (by simp only [List.length_cons, List.length_nil, List.length_append]; omega) st.exB (st.dr hS)
set_option maxHeartbeats 0 in
theorem ok_law_wrapped1 (A : All K mg) {D lv : Nat} (hlv : 2 ≤ lv) (c_law_drawn : Cal P w K mg base 1 "_law_drawn" (spDrawn K)) (c_law_wrapped : Cal P w K mg base lv "_law_wrapped" (spLwW K D)) (c_law_wrapped_operand : Cal P w K mg base lv "_law_wrapped_operand" (spLwO K D)) : Cal P w K mg base (lv + 1) "_law_wrapped" (spLwW K (D + 1)) := by
  have c_law_level := ok_law_level (P := P) (w := w) (base := base) A
  have c_law_print := ok_law_print (P := P) (w := w) (base := base) A 1
  refine cal_of A.d_law_wrapped sc_law_wrapped (fun _ _ _ _ _ _ us hl => match us, hl with | [_, _], _ => rfl) (fun vs H Q E h => ?_) (fun f cdv A' outer s0 H0 vs Q E hr h => ?_)
  · obtain ⟨h, a, v, e, rfl, _⟩ := h
    rfl
  · obtain ⟨h, a, v, e, rfl, dr, dv, hL, hdp, hD, k⟩ := h
    obtain ⟨i, m, r, st, hS⟩ := dr.start
    have hd := dv
    have hpw := pow_le10 (d := e.dp) (by omega)
    refine ⟨_, (pss_cons (ps_set (i := 2) sc_law_wrapped.nd rfl (Or.inl rfl) (pe_ix (k_ixT (K := K) rfl) (pv 1) pe_int (fun _ _ => rfl)))
 (pss_cons (ps_if (pt_cmpR op_eq (pv 2) pe_str (nomark _)) (pss_one (ps_set (i := 3) sc_law_wrapped.nd rfl (Or.inl rfl) (pe_op op_add_str pe_str (pc c_law_wrapped_operand hr (by omega) (pa_cons (pv 0) (pa_cons (pe_ix (k_ixT (K := K) rfl) (pv 1) pe_int (fun _ _ => rfl)) (pa_cons pe_int pa_nil))))))) (pss_one (ps_if (pt_cmpR op_eq (pv 2) pe_str (nomark _)) (pss_cons (ps_set (i := 4) sc_law_wrapped.nd rfl (Or.inl rfl) (pc c_law_level hr (by omega) (pa_cons (pv 1) pa_nil)))
 (pss_cons (ps_set (i := 3) sc_law_wrapped.nd rfl (Or.inl rfl) (pe_op op_add_str (pe_op op_add_str (pe_op op_add_str (pc c_law_wrapped_operand hr (by omega) (pa_cons (pv 0) (pa_cons (pe_ix (k_ixT (K := K) rfl) (pv 1) pe_int (fun _ _ => rfl)) (pa_cons (pv 4) pa_nil)))) pe_str) (pe_ix (k_ixT (K := K) rfl) (pv 1) pe_int (fun _ _ => rfl))) pe_str))
 (pss_one (ps_set (i := 3) sc_law_wrapped.nd rfl (Or.inl rfl) (pe_op op_add_str (pv 3) (pc c_law_wrapped_operand hr (by omega) (pa_cons (pv 0) (pa_cons (pe_ix (k_ixT (K := K) rfl) (pv 1) pe_int (fun _ _ => rfl)) (pa_cons (pe_op op_add (pv 4) pe_int) pa_nil))))))))) (pss_one (ps_if (pt_cmpR op_eq (pv 2) pe_str (nomark _)) (pss_one (ps_set (i := 3) sc_law_wrapped.nd rfl (Or.inl rfl) (pe_op op_add_str (pe_op op_add_str pe_str (pc c_law_wrapped hr (by omega) (pa_cons (pv 0) (pa_cons (pe_ix (k_ixT (K := K) rfl) (pv 1) pe_int (fun _ _ => rfl)) pa_nil)))) pe_str))) (pss_one (ps_set (i := 3) sc_law_wrapped.nd rfl (Or.inl rfl) (pc c_law_print hr (by omega) (pa_cons (pv 1) (pa_cons pe_int pa_nil))))))))))
 (pss_one (ps_ret (pe_ifExp (pt_cmpR op_eq (pc c_law_drawn hr (by omega) (pa_cons (pv 0) (pa_cons pe_int pa_nil))) pe_int (nomark _)) (pe_op op_add_str (pe_op op_add_str pe_str (pv 3)) pe_str) (pv 3)))))), ?_⟩
    (try (dsimp only [L2.cxOf, L2.Cx.nox, L2.Cx.wish, L2.Cx.blk]))
    obtain ⟨a0, xs0, fm, rfl, t0, hf⟩ := ex_form hd
    refine i_seq (i_asg ?_)
    walk_at "go"
    refine i_ixT t0.sq atI_zero ?_
    refine i_join (fun σ' H' => ∃ (t : List Nat) (ts : List Str) (x4 : Option V) (i : Nat) (m r : Int), σ' = [some (.ref h), some (.ref a0), some (.str fm), some (.str (S t)), x4] ∧ RnT t (csL ts) ∧ TkR (3 * e.dp + 1) e.lv e ts ∧ t.length + 13 ≤ 31 * 2 ^ e.dp ∧ Stt [h] H0 (dL h a i m r []) [] H') (fun N J => ?_) ?_
    · have hdp2 : ∀ d', e.dp = d' + 1 → 2 ^ e.dp = 2 * 2 ^ d' := fun d' h => by rw [h, Nat.pow_succ, Nat.mul_comm]
      cases e with
      | num n =>
        obtain ⟨a, x, ea, t, d1⟩ := ex_inv2 hd
        cases ea
        subst hf
        walk_at "go"
        refine ifF (show decide (("number" : Str) = "negative") = false by decide +kernel) ?_
        walk_at "go"
        refine ifF (show decide (("number" : Str) = "binary") = false by decide +kernel) ?_
        walk_at "go"
        refine ifF (show decide (("number" : Str) = "queue") = false by decide +kernel) ?_
        walk_at "go"
        have hpl := pE_len (Ex.num n) hL
        have h0 : (Ex.num n).dp = 0 := rfl
        rw [h0] at hpl
        refine ⟨_, Ex.num n, 1, rfl, hd, hL, by rw [h0]; decide, by omega, fun H1 s1 => ?_⟩
        rw [pO1]
        walk_at "go"
        exact J _ _ ⟨_, tkE (Ex.num n), _, i, m, r, rfl, pE_rn _ hL, (tkE_r _ (exL_W hL)).1, by rw [h0]; omega, st.ext s1⟩
      | name z =>
        obtain ⟨a, x, ea, t, d1⟩ := ex_inv2 hd
        cases ea
        subst hf
        walk_at "go"
        refine ifF (show decide (("name" : Str) = "negative") = false by decide +kernel) ?_
        walk_at "go"
        refine ifF (show decide (("name" : Str) = "binary") = false by decide +kernel) ?_
        walk_at "go"
        refine ifF (show decide (("name" : Str) = "queue") = false by decide +kernel) ?_
        walk_at "go"
        have hpl := pE_len (Ex.name z) hL
        have h0 : (Ex.name z).dp = 0 := rfl
        rw [h0] at hpl
        refine ⟨_, Ex.name z, 1, rfl, hd, hL, by rw [h0]; decide, by omega, fun H1 s1 => ?_⟩
        rw [pO1]
        walk_at "go"
        exact J _ _ ⟨_, tkE (Ex.name z), _, i, m, r, rfl, pE_rn _ hL, (tkE_r _ (exL_W hL)).1, by rw [h0]; omega, st.ext s1⟩
      | fin p =>
        obtain ⟨a, x, ea, t, d1⟩ := ex_inv2 hd
        cases ea
        subst hf
        walk_at "go"
        refine ifF (show decide (("finished" : Str) = "negative") = false by decide +kernel) ?_
        walk_at "go"
        refine ifF (show decide (("finished" : Str) = "binary") = false by decide +kernel) ?_
        walk_at "go"
        refine ifF (show decide (("finished" : Str) = "queue") = false by decide +kernel) ?_
        walk_at "go"
        have hpl := pE_len (Ex.fin p) hL
        have h0 : (Ex.fin p).dp = 0 := rfl
        rw [h0] at hpl
        refine ⟨_, Ex.fin p, 1, rfl, hd, hL, by rw [h0]; decide, by omega, fun H1 s1 => ?_⟩
        rw [pO1]
        walk_at "go"
        exact J _ _ ⟨_, tkE (Ex.fin p), _, i, m, r, rfl, pE_rn _ hL, (tkE_r _ (exL_W hL)).1, by rw [h0]; omega, st.ext s1⟩
      | next =>
        obtain ⟨a, ea, t⟩ := ex_inv1 hd
        cases ea
        subst hf
        walk_at "go"
        refine ifF (show decide (("next" : Str) = "negative") = false by decide +kernel) ?_
        walk_at "go"
        refine ifF (show decide (("next" : Str) = "binary") = false by decide +kernel) ?_
        walk_at "go"
        refine ifF (show decide (("next" : Str) = "queue") = false by decide +kernel) ?_
        walk_at "go"
        have hpl := pE_len (Ex.next) hL
        have h0 : (Ex.next).dp = 0 := rfl
        rw [h0] at hpl
        refine ⟨_, Ex.next, 1, rfl, hd, hL, by rw [h0]; decide, by omega, fun H1 s1 => ?_⟩
        rw [pO1]
        walk_at "go"
        exact J _ _ ⟨_, tkE (Ex.next), _, i, m, r, rfl, pE_rn _ hL, (tkE_r _ (exL_W hL)).1, by rw [h0]; omega, st.ext s1⟩
      | neg e =>
        obtain ⟨a, x, ea, t, d1⟩ := ex_inv2 hd
        cases ea
        subst hf
        walk_at "go"
        refine ifT (show decide (("negative" : Str) = "negative") = true by decide +kernel) ?_
        walk_at "go"
        have hd1 : (Ex.neg e).dp = e.dp + 1 := rfl
        have hp2 := hdp2 e.dp hd1
        have st := st.know d1 Pers.dt
        refine i_ixT t.sq (v := x) rfl ?_
        walk_at "go"
        refine ⟨h, _, x, e, 3, rfl, .inr (.inr rfl), st.dr hS, d1, hL, by omega, by omega, fun tx ts H1 hrn htk hlen ex dr' => ?_⟩
        obtain ⟨i', m', r', st⟩ := st.drn ex dr'
        rw [z_min]
        refine i_addB (by simp only [List.length_cons, List.length_nil]; omega) ?_
        rw [S_app]
        walk_at "go"
        refine J _ _ ⟨_, "-" :: ts, _, _, _, _, rfl, ?_, .neg (htk.mono (by omega)), by rw [hp2]; simp only [List.length_cons, List.length_nil, List.length_append]; omega, st.forget⟩
        refine (RnT.pre (c := 45) ⟨by decide, by decide⟩ hrn).to ?_
        rw [show csL ("-" :: ts) = cs "-" :: csL ts from rfl, show cs "-" = [45] by decide +kernel]
        rfl
      | bin o l r2 =>
        obtain ⟨a, x, y, z, ea, t, d1, d2, d3⟩ := ex_inv4 hd
        obtain rfl := dt_str d1
        cases ea
        subst hf
        walk_at "go"
        refine ifF (show decide (("binary" : Str) = "negative") = false by decide +kernel) ?_
        walk_at "go"
        refine ifT (show decide (("binary" : Str) = "binary") = true by decide +kernel) ?_
        walk_at "go"
        have hd1 : (Ex.bin o l r2).dp = max l.dp r2.dp + 1 := rfl
        have hp2 := hdp2 _ hd1
        have q1 : 31 * 2 ^ l.dp ≤ 31 * 2 ^ max l.dp r2.dp := Nat.mul_le_mul_left _ (Nat.pow_le_pow_right (by decide) (Nat.le_max_left _ _))
        have q2 : 31 * 2 ^ r2.dp ≤ 31 * 2 ^ max l.dp r2.dp := Nat.mul_le_mul_left _ (Nat.pow_le_pow_right (by decide) (Nat.le_max_right _ _))
        have ol := op_len o
        have olv : o.lv = 1 ∨ o.lv = 2 := by cases o <;> simp [Op.lv]
        rw [hp2] at hpw
        generalize 2 ^ max l.dp r2.dp = PW at hpw q1 q2 hp2
        have hl1 : l.dp < D := by omega
        have hr1 : r2.dp < D := by omega
        have st := (st.know d2 Pers.dt).know d3 Pers.dt
        have st := st.know (φ := fun H => TupAt K H _ _) t Pers.tup
        refine ⟨_, .bin o l r2, rfl, hd, fun H1 s1 => ?_⟩
        have st := st.ext s1
        walk_at "go"
        refine i_ixT (st.pers 2 rfl : TupAt K _ _ _).sq (v := y) rfl ?_
        walk_at "go"
        refine ⟨h, _, y, l, o.lv, rfl, by rcases olv with q | q <;> simp [q], st.dr hS, st.pers 0 rfl, hL.1, hl1, by omega, fun ta tsa H2 rna tka lena ex dr' => ?_⟩
        obtain ⟨i2, m2, r3, st⟩ := st.drn ex dr'
        rw [z_spc]
        refine i_addB (by simp only [List.length_cons, List.length_nil]; omega) ?_
        rw [S_app]
        walk_at "go"
        refine i_ixT (st.pers 2 rfl : TupAt K _ _ _).sq (v := .str o.s) rfl ?_
        rw [← S_cs o.s]
        refine i_addB (by simp only [List.length_cons, List.length_nil, List.length_append]; omega) ?_
        rw [S_app]
        walk_at "go"
        refine i_addB (by simp only [List.length_cons, List.length_nil, List.length_append]; omega) ?_
        rw [S_app]
        walk_at "go"
        refine i_ixT (st.pers 2 rfl : TupAt K _ _ _).sq (v := z) rfl ?_
        walk_at "go"
        refine ⟨h, _, z, r2, o.lv + 1, rfl, by rcases olv with q | q <;> simp [q], st.dr hS, st.pers 1 rfl, hL.2, hr1, by omega, fun tb tsb H3 rnb tkb lenb ex dr' => ?_⟩
        obtain ⟨i4, m4, r4, st⟩ := st.drn ex dr'
        refine i_addB (by simp only [List.length_cons, List.length_nil, List.length_append]; omega) ?_
        rw [S_app]
        walk_at "go"
        rw [show ta ++ [32] ++ cs o.s ++ [32] ++ tb = ta ++ 32 :: (cs o.s ++ 32 :: tb) by simp]
        refine J _ _ ⟨_, tsa ++ o.s :: tsb, _, _, _, _, rfl, ?_, ?_, by rw [hp2]; simp only [List.length_cons, List.length_nil, List.length_append]; omega, st.forget⟩
        · exact (op_rn o rna rnb).to (by simp [csL])
        · have ma := tka.mono (g := 3 * (Ex.bin o l r2).dp + 1) (by rw [hd1]; have := Nat.le_max_left l.dp r2.dp; omega)
          have mb := tkb.mono (g := 3 * (Ex.bin o l r2).dp + 1) (by rw [hd1]; have := Nat.le_max_right l.dp r2.dp; omega)
          have hle : (Ex.bin o l r2).lv = o.lv := rfl
          rw [hle]
          have hf : ∃ g, 3 * (Ex.bin o l r2).dp + 1 = g + 1 := ⟨_, rfl⟩
          obtain ⟨g, hg⟩ := hf
          rw [hg] at ma mb ⊢
          rcases olv with q | q
          · rw [q] at ma mb ⊢
            exact .sum q ma mb
          · rw [q] at ma mb ⊢
            exact .pro q ma mb
      | queue e =>
        obtain ⟨a, x, ea, t, d1⟩ := ex_inv2 hd
        cases ea
        subst hf
        walk_at "go"
        refine ifF (show decide (("queue" : Str) = "negative") = false by decide +kernel) ?_
        walk_at "go"
        refine ifF (show decide (("queue" : Str) = "binary") = false by decide +kernel) ?_
        walk_at "go"
        refine ifT (show decide (("queue" : Str) = "queue") = true by decide +kernel) ?_
        walk_at "go"
        have hd1 : (Ex.queue e).dp = e.dp + 1 := rfl
        have hp2 := hdp2 e.dp hd1
        have st := st.know d1 Pers.dt
        refine i_ixT t.sq (v := x) rfl ?_
        walk_at "go"
        refine ⟨h, _, x, e, rfl, st.dr hS, d1, hL, by omega, by omega, fun tx ts H1 hrn htk hlen ex dr' => ?_⟩
        obtain ⟨i', m', r', st⟩ := st.drn ex dr'
        have eql : (cs "queue(").length = 6 := by decide +kernel
        have eqf : cs "queue(" = cs "queue" ++ [40] := by decide +kernel
        rw [← S_cs "queue("]
        refine i_addB (by rw [eql]; omega) ?_
        rw [S_app]
        walk_at "go"
        rw [z_rp]
        refine i_addB (by rw [List.length_append, eql]; simp only [List.length_cons, List.length_nil]; omega) ?_
        rw [S_app]
        walk_at "go"
        refine J _ _ ⟨_, "queue" :: "(" :: (ts ++ ([")"] : List Str)), _, _, _, _, rfl, ?_, .queue ((htk.down (.inl rfl) (lv_3 e) (by rcases lv_3 e with q | q | q <;> omega)).mono (by omega)), by rw [hp2]; simp only [List.length_cons, List.length_nil, List.length_append, eql]; omega, st.forget⟩
        refine (show RnT (cs "queue" ++ 40 :: (tx ++ [41])) _ from (wdS (z := "queue") ⟨by decide +kernel, by decide +kernel⟩).cat (c := 40) ⟨by decide, by decide⟩ (hrn.post (c := 41) ⟨by decide, by decide⟩)) |> fun x => ?_
        rw [eqf, show cs "queue" ++ [40] ++ tx ++ [41] = cs "queue" ++ 40 :: (tx ++ [41]) by simp]
        refine x.to ?_
        rw [show csL ("queue" :: "(" :: (ts ++ ([")"] : List Str))) = cs "queue" :: cs "(" :: (csL ts ++ [cs ")"]) by simp, show cs "(" = [40] by decide +kernel, show cs ")" = [41] by decide +kernel]
        rfl
    · clear st
      rintro σ H1 ⟨t, ts, x4, i, m, r, rfl, hrn, htk, hlen, st⟩
      walk_at "go"
      refine st_drawn st hS (by decide) (by decide) fun z i m r H2 z0 z1 st => ?_
      walk_at "go"
      by_cases hz : z = 0
      · refine ifT (decide_eq_true hz) ?_
        walk_at "go"
        rw [z_lp, z_rp]
        refine i_addB (by simp only [List.length_cons, List.length_nil]; omega) ?_
        rw [S_app]
        walk_at "go"
        refine i_addB (by simp only [List.length_cons, List.length_nil, List.length_append]; omega) ?_
        rw [S_app]
        exact k _ _ H2 (par_rn hrn) (.to (.par (htk.down (.inl rfl) (lv_3 e) (by rcases lv_3 e with q | q | q <;> omega))) (lv_3 e)) (by simp only [List.length_cons, List.length_nil, List.length_append]; omega) st.exB (st.dr hS)
      · refine ifF (decide_eq_false hz) ?_
        walk_at "go"
        exact k t ts H2 hrn (htk.mono (by omega)) (by omega) st.exB (st.dr hS)
theorem law_wr (A : All K mg) (c_law_drawn : Cal P w K mg base 1 "_law_drawn" (spDrawn K)) : ∀ D, Cal P w K mg base (2 * D + 2) "_law_wrapped" (spLwW K D) ∧ Cal P w K mg base (2 * D + 3) "_law_wrapped_operand" (spLwO K D) := by
  intro D
  induction D with
  | zero =>
    have h : Cal P w K mg base 2 "_law_wrapped" (spLwW K 0) := by
      refine cal_of A.d_law_wrapped sc_law_wrapped (fun _ _ _ _ _ _ us hl => match us, hl with | [_, _], _ => rfl) (fun vs H Q E h => ?_) (fun f cdv A' outer s0 H0 vs Q E hr h => ?_)
      · obtain ⟨h, a, v, e, rfl, _⟩ := h
        rfl
      · obtain ⟨h, a, v, e, rfl, _, _, _, h, _⟩ := h
        exact absurd h (Nat.not_lt_zero _)
    exact ⟨h, ok_law_wrapped_operand A (by omega) h⟩
  | succ D ih =>
    have h := ok_law_wrapped1 A (lv := 2 * D + 3) (by omega) c_law_drawn (ih.1.mono (by omega)) ih.2
    have h : Cal P w K mg base (2 * (D + 1) + 2) "_law_wrapped" (spLwW K (D + 1)) := h
    exact ⟨h, ok_law_wrapped_operand A (by omega) h⟩
end
end Fb
namespace Fb
open PySem PySem.Spec PyProof.Rows L2 PySem.HandSPX SX
def sepR (rest : List Nat) : Prop := ∀ c r', rest = c :: r' → brkC c
def LxT (t : List Nat) (ts : List (List Nat)) : Prop := ∀ (rest : List Nat) (n row col : Nat) (acc : List Tok), sepR rest → (t ++ rest).length < n → ∃ n' row' col' acc', rest.length < n' ∧ lx n row col acc (t ++ rest) = lx n' row' col' acc' rest ∧ acc'.map (·.tx) = acc.map (·.tx) ++ ts.map S
def bG (c : Nat) : Prop := brkC c ∧ (c = 32 ∨ c = 10 ∨ [c] ∈ signsL ∧ sigE [c] = false)
theorem sep_apart {t rest : List Nat} (h : sepR rest) : apart t rest := by
  intro c r' q
  obtain ⟨h1, h2⟩ := h c r' q
  unfold wdC at h1
  rw [Bool.or_eq_false_iff] at h1
  unfold glueC
  rw [h1.1, h1.2, decide_eq_false h2]
  cases t <;> simp
theorem LxT.nil : LxT [] [] := fun rest n row col acc _ hn => ⟨n, row, col, acc, by simpa using hn, rfl, by simp⟩
theorem LxT.to {t : List Nat} {ts us : List (List Nat)} (h : LxT t ts) (e : ts = us) : LxT t us := e ▸ h
theorem LxT.word {w : List Nat} (g : tokG w) : LxT w [w] := by
  intro rest n row col acc hs hn
  obtain ⟨n', h1, h2⟩ := lx_tok g (sep_apart hs) n row col acc hn
  exact ⟨n', _, _, _, h1, h2, by simp⟩
theorem sep_cons {c : Nat} {r : List Nat} (h : brkC c) : sepR (c :: r) := fun d r' q => by
  obtain ⟨rfl, _⟩ := List.cons.inj q
  exact h
theorem LxT.cat {a b : List Nat} {ta tb : List (List Nat)} {c : Nat} (ha : LxT a ta) (hc : bG c) (hb : LxT b tb) : LxT (a ++ c :: b) (ta ++ (tokC c ++ tb)) := by
  intro rest n row col acc hs hn
  have e1 : (a ++ c :: b) ++ rest = a ++ (c :: (b ++ rest)) := by simp
  rw [e1] at hn ⊢
  obtain ⟨n1, r1, c1, acc1, q1, q2, q3⟩ := ha (c :: (b ++ rest)) n row col acc (sep_cons hc.1) hn
  rw [q2]
  have step : ∃ n2 r2 c2 acc2, (b ++ rest).length < n2 ∧ lx n1 r1 c1 acc1 (c :: (b ++ rest)) = lx n2 r2 c2 acc2 (b ++ rest) ∧ acc2.map (·.tx) = acc1.map (·.tx) ++ (tokC c).map S := by
    obtain ⟨m, rfl⟩ : ∃ m, n1 = m + 1 := ⟨n1 - 1, by omega⟩
    rcases hc.2 with rfl | rfl | ⟨h1, h2⟩
    · exact ⟨m, _, _, _, by rw [List.length_cons] at q1; omega, rfl, by simp [tokC]⟩
    · exact ⟨m, _, _, _, by rw [List.length_cons] at q1; omega, rfl, by simp [tokC]⟩
    · have hcb := hc.1
      have g : tokG [c] := .inr (.inr h1)
      have hap : apart [c] (b ++ rest) := by
        intro d r' _
        have h3 := hcb.1
        unfold wdC at h3
        rw [Bool.or_eq_false_iff] at h3
        show ((letN c && letN d || digN c && digN d) || sigE [c] && decide (d = 61)) = false
        rw [h3.1, h3.2, h2]
        rfl
      obtain ⟨n2, h4, h5⟩ := lx_tok g hap (m + 1) r1 c1 acc1 (by simpa using q1)
      obtain ⟨g1, g2, g3⟩ := tokG_head g
      refine ⟨n2, _, _, _, h4, h5, ?_⟩
      unfold tokC
      rw [if_neg (by omega)]
      simp
  obtain ⟨n2, r2, c2, acc2, s1, s2, s3⟩ := step
  rw [s2]
  obtain ⟨n3, r3, c3, acc3, t1, t2, t3⟩ := hb rest n2 r2 c2 acc2 hs s1
  exact ⟨n3, r3, c3, acc3, t1, t2, by rw [t3, s3, q3]; simp⟩
theorem LxT.pre {b : List Nat} {tb : List (List Nat)} {c : Nat} (hc : bG c) (hb : LxT b tb) : LxT (c :: b) (tokC c ++ tb) := by
  simpa using LxT.cat .nil hc hb
theorem LxT.post {a : List Nat} {ta : List (List Nat)} {c : Nat} (ha : LxT a ta) (hc : bG c) : LxT (a ++ [c]) (ta ++ tokC c) := by
  simpa using LxT.cat ha hc .nil
theorem brk_spG : bG 32 := ⟨⟨by decide, by decide⟩, by decide⟩
theorem LxT.mid {a b t : List Nat} {ta tb : List (List Nat)} (ha : LxT a ta) (g : tokG t) (hb : LxT b tb) : LxT (a ++ 32 :: (t ++ 32 :: b)) (ta ++ t :: tb) :=
  (ha.cat brk_spG ((LxT.word g).cat brk_spG hb)).to (by simp [tokC])
theorem lex_of {t : List Nat} {ts : List (List Nat)} (h : LxT t ts) : ∃ toks, lexAll t = .ok toks ∧ toks.map (·.tx) = ts.map S := by
  rw [lexAll_lx _ _ (Nat.lt_succ_self _)]
  obtain ⟨n', r', c', acc', h1, h2, h3⟩ := h [] (t.length + 1) 0 0 [] (fun c r q => by cases q) (by simp)
  rw [List.append_nil] at h2
  rw [h2]
  obtain ⟨m, rfl⟩ : ∃ m, n' = m + 1 := ⟨n' - 1, by simp at h1; omega⟩
  exact ⟨acc', rfl, by simpa using h3⟩
theorem wdG {z : Str} (h : tokG (cs z)) : LxT (cs z) [cs z] := .word h
theorem parL_lx {b : Bool} {t : List Nat} {ts : List Str} (h : LxT t (csL ts)) : LxT (parL b t) (csL (parT b ts)) := by
  cases b
  · exact h
  · show LxT (40 :: (t ++ [41])) (csL ("(" :: (ts ++ ([")"] : List Str))))
    refine (LxT.pre (c := 40) ⟨⟨by decide, by decide⟩, by decide⟩ (h.post (c := 41) ⟨⟨by decide, by decide⟩, by decide⟩)).to ?_
    rw [show csL ("(" :: (ts ++ ([")"] : List Str))) = cs "(" :: (csL ts ++ [cs ")"]) by simp, show cs "(" = [40] by decide +kernel, show cs ")" = [41] by decide +kernel]
    rfl
theorem op_lx {a b : List Nat} {ta tb : List (List Nat)} (o : Op) (ha : LxT a ta) (hb : LxT b tb) : LxT (a ++ 32 :: (cs o.s ++ 32 :: b)) (ta ++ cs o.s :: tb) := ha.mid (op_tok o) hb
theorem pE_lx : ∀ e : Ex, exL e → LxT (pE e) (csL (tkE e)) := by
  intro e
  induction e with
  | num n => exact fun h => .word (.inr (.inl (num_tok h)))
  | name s => exact fun h => wdG (.inl h.2)
  | next => exact fun _ => wdG (z := "next") (.inl ⟨by decide +kernel, by decide +kernel, by decide +kernel⟩)
  | neg e ih =>
    intro h
    refine (LxT.pre (c := 45) ⟨⟨by decide, by decide⟩, by decide⟩ (parL_lx (b := decide (e.lv < 3)) (ih h))).to ?_
    rw [tkE, show csL ("-" :: parT (decide (e.lv < 3)) (tkE e)) = cs "-" :: csL (parT (decide (e.lv < 3)) (tkE e)) from rfl, show cs "-" = [45] by decide +kernel]
    rfl
  | bin o l r il ir =>
    intro h
    refine (op_lx o (parL_lx (b := decide (l.lv < o.lv)) (il h.1)) (parL_lx (b := decide (r.lv < o.lv + 1)) (ir h.2))).to ?_
    rw [tkE]
    simp [csL]
  | queue e ih =>
    intro h
    refine ((wdG (z := "queue") (.inl ⟨by decide +kernel, by decide +kernel, by decide +kernel⟩)).cat (c := 40) ⟨⟨by decide, by decide⟩, by decide⟩ ((ih h).post (c := 41) ⟨⟨by decide, by decide⟩, by decide⟩)).to ?_
    rw [tkE, show csL ("queue" :: "(" :: (tkE e ++ ([")"] : List Str))) = cs "queue" :: cs "(" :: (csL (tkE e) ++ [cs ")"]) by simp, show cs "(" = [40] by decide +kernel, show cs ")" = [41] by decide +kernel]
    rfl
  | fin p =>
    intro h
    refine ((wdG (z := "finished") (.inl ⟨by decide +kernel, by decide +kernel, by decide +kernel⟩)).cat (c := 40) ⟨⟨by decide, by decide⟩, by decide⟩ ((wdG (.inl h)).post (c := 41) ⟨⟨by decide, by decide⟩, by decide⟩)).to ?_
    rw [tkE, show csL (["finished", "(", p, ")"] : List Str) = [cs "finished", cs "(", cs p, cs ")"] from rfl, show cs "(" = [40] by decide +kernel, show cs ")" = [41] by decide +kernel]
    rfl
inductive LxL : List (List Nat) → List (List Nat) → Prop
  | nil : LxL [] []
  | cons {l : List Nat} {ts : List (List Nat)} {ls : List (List Nat)} {us : List (List Nat)} : LxT l ts → LxL ls us → LxL (l :: ls) (ts ++ us)
theorem LxL.app {a b ta tb : List (List Nat)} (ha : LxL a ta) (hb : LxL b tb) : LxL (a ++ b) (ta ++ tb) := by
  induction ha with
  | nil => exact hb
  | cons h _ ih => rw [List.cons_append, List.append_assoc]; exact .cons h ih
theorem LxL.one {l : List Nat} {ts : List (List Nat)} (h : LxT l ts) : LxL [l] ts := by simpa using LxL.cons h .nil
theorem LxL.to {a ts us : List (List Nat)} (h : LxL a ts) (e : ts = us) : LxL a us := e ▸ h
theorem LxL.ind {a ta : List (List Nat)} (ha : LxL a ta) : LxL (a.map fun l => 32 :: 32 :: l) ta := by
  induction ha with
  | nil => exact .nil
  | cons h _ ih => exact .cons ((LxT.pre brk_spG (LxT.pre brk_spG h)).to rfl) ih
theorem join_lx : ∀ {ls ts : List (List Nat)}, LxL ls ts → LxT (joinL ls) ts
  | [], _, h => by cases h; exact .nil
  | [l], _, h => by
    cases h with
    | cons h1 h2 =>
      cases h2
      rw [List.append_nil]
      exact h1
  | l :: m :: ls, _, h => by
    cases h with
    | cons h1 h2 => exact (h1.cat (c := 10) ⟨⟨by decide, by decide⟩, by decide⟩ (join_lx h2)).to rfl
theorem brk_lbG : bG 123 := ⟨⟨by decide, by decide⟩, by decide⟩
theorem brk_rbG : bG 125 := ⟨⟨by decide, by decide⟩, by decide⟩
theorem bk_lx {h : List Nat} {th ls ts : List (List Nat)} (hh : LxT h th) (hl : LxL ls ts) : LxL (pBk h ls [125]) (th ++ [123] :: (ts ++ [[125]])) := by
  unfold pBk
  by_cases e : ls = []
  · subst e
    cases hl
    rw [if_pos rfl]
    refine LxL.one ((hh.cat brk_spG (LxT.pre brk_lbG (LxT.pre brk_rbG .nil))).to ?_)
    simp [tokC]
  · rw [if_neg e]
    have h1 : LxT (h ++ [32, 123]) (th ++ [[123]]) := (hh.cat brk_spG (LxT.pre brk_lbG .nil)).to (by simp [tokC])
    have h2 : LxT [125] [[125]] := (LxT.pre brk_rbG .nil).to (by simp [tokC])
    refine (LxL.cons h1 (hl.ind.app (LxL.one h2))).to ?_
    simp
theorem kw_lx {z : Str} {b : List Nat} {tb : List (List Nat)} (h : tokG (cs z)) (hb : LxT b tb) : LxT (cs z ++ 32 :: b) (cs z :: tb) := ((wdG h).cat brk_spG hb).to rfl
theorem cp_lx {a b : List Nat} {ta tb : List (List Nat)} (c : Cp) (ha : LxT a ta) (hb : LxT b tb) : LxT (a ++ 32 :: (cs c.s ++ 32 :: b)) (ta ++ cs c.s :: tb) := ha.mid (cp_tok c) hb
theorem semi_lx {a : List Nat} {ta : List Str} (ha : LxT a (csL ta)) : LxT (a ++ [59]) (csL (ta ++ ([";"] : List Str))) :=
  (ha.post (c := 59) ⟨⟨by decide, by decide⟩, by decide⟩).to (by rw [show csL (ta ++ ([";"] : List Str)) = csL ta ++ [cs ";"] by simp, cs_sc]; rfl)
theorem comma_lx {a b : List Nat} {ta tb : List Str} (ha : LxT a (csL ta)) (hb : LxT b (csL tb)) : LxT (a ++ 44 :: 32 :: b) (csL (ta ++ ("," : Str) :: tb)) :=
  (ha.cat (c := 44) ⟨⟨by decide, by decide⟩, by decide⟩ (LxT.pre brk_spG hb)).to (by rw [show csL (ta ++ ("," : Str) :: tb) = csL ta ++ cs "," :: csL tb by simp, cs_cm]; rfl)
theorem pT_lx : ∀ {t : Tg}, tgL t → LxT (pT t) (csL (tkT t))
  | .port p, h => kw_lx (z := "port") (.inl ⟨by decide +kernel, by decide +kernel, by decide +kernel⟩) (wdG (.inl h))
  | .station e, h => kw_lx (z := "station") (.inl ⟨by decide +kernel, by decide +kernel, by decide +kernel⟩) (pE_lx e h)
theorem if_lx {l r : Ex} {c : Cp} (h1 : exL l) (h2 : exL r) : LxT (hdIf l c r) (csL ("if" :: (tkE l ++ c.s :: tkE r))) := by
  refine (kw_lx (z := "if") (.inl ⟨by decide +kernel, by decide +kernel, by decide +kernel⟩) (cp_lx c (pE_lx l h1) (pE_lx r h2))).to ?_
  simp [csL]
theorem else_lx {ls ts bs us : List (List Nat)} (h : LxL ls (ts ++ [[125]])) (hne : ls ≠ []) (hl : ∃ x y, LxL ls.dropLast x ∧ LxT (ls.getLastD []) y ∧ x ++ y = ts ++ [[125]]) (hb : LxL bs us) (hb0 : bs ≠ []) : LxL (pElse ls bs) (ts ++ [125] :: cs "else" :: [123] :: (us ++ [[125]])) := by
  unfold pElse
  rw [if_neg hb0]
  obtain ⟨x, y, h1, h2, h3⟩ := hl
  have h4 : LxT (ls.getLastD [] ++ 32 :: cs "else") (y ++ [cs "else"]) := (h2.cat brk_spG (wdG (z := "else") (.inl ⟨by decide +kernel, by decide +kernel, by decide +kernel⟩))).to rfl
  refine (h1.app (bk_lx h4 hb)).to ?_
  rw [show x ++ (y ++ [cs "else"] ++ [123] :: (us ++ [[125]])) = (x ++ y) ++ cs "else" :: [123] :: (us ++ [[125]]) by simp, h3]
  simp
theorem bk_lastG {h : List Nat} {th ls ts : List (List Nat)} (hh : LxT h th) (hl : LxL ls ts) : ∃ x y, LxL (pBk h ls [125]).dropLast x ∧ LxT ((pBk h ls [125]).getLastD []) y ∧ x ++ y = th ++ [123] :: (ts ++ [[125]]) := by
  unfold pBk
  by_cases e : ls = []
  · subst e
    cases hl
    rw [if_pos rfl]
    exact ⟨[], _, .nil, (hh.cat brk_spG (LxT.pre brk_lbG (LxT.pre brk_rbG .nil))), by simp [tokC]⟩
  · rw [if_neg e]
    have h1 : LxT (h ++ [32, 123]) (th ++ [[123]]) := (hh.cat brk_spG (LxT.pre brk_lbG .nil)).to (by simp [tokC])
    have h2 : LxT [125] [[125]] := (LxT.pre brk_rbG .nil).to (by simp [tokC])
    rw [← List.cons_append, List.dropLast_concat, lastD_snoc]
    exact ⟨_, _, LxL.cons h1 hl.ind, h2, by simp⟩
theorem lines_lx (n : Nat) : (∀ s : Sm, sizeOf s < n → smL s → LxL (pS s) (csL (tkS s))) ∧ ∀ b : List Sm, sizeOf b < n → blL b → LxL (pB b) (csL (tkB b)) := by
  induction n with
  | zero => exact ⟨fun s h => absurd h (by omega), fun s h => absurd h (by omega)⟩
  | succ n ih =>
    obtain ⟨iS, iB⟩ := ih
    have hS : ∀ s : Sm, sizeOf s < n + 1 → smL s → LxL (pS s) (csL (tkS s)) := by
      intro s hn h
      cases s with
      | simple k e =>
        rw [pS, tkS]
        refine LxL.one ?_
        rw [smL] at h
        exact (kw_lx (kw_tok k) (semi_lx (pE_lx e h))).to rfl
      | link a b t =>
        rw [pS, tkS]
        rw [smL] at h
        obtain ⟨h1, h2, h3⟩ := h
        refine LxL.one ?_
        exact (kw_lx (z := "link") (.inl ⟨by decide +kernel, by decide +kernel, by decide +kernel⟩) (comma_lx (pE_lx a h1) (comma_lx (pE_lx b h2) (semi_lx (pT_lx h3))))).to rfl
      | asg x e =>
        rw [pS, tkS]
        rw [smL] at h
        obtain ⟨⟨h1, h2⟩, h3⟩ := h
        refine LxL.one ?_
        refine (kw_lx (z := "let") (.inl ⟨by decide +kernel, by decide +kernel, by decide +kernel⟩) (LxT.mid (t := [61]) (wdG (z := x) (.inl h2)) (.inr (.inr (by decide))) (semi_lx (pE_lx e h3)))).to ?_
        rw [show csL (("let" : Str) :: x :: ("=" : Str) :: (tkE e ++ ([";"] : List Str))) = cs "let" :: cs x :: cs "=" :: csL (tkE e ++ ([";"] : List Str)) from rfl, show cs "=" = [61] by decide +kernel]
        rfl
      | rep e b =>
        rw [pS, tkS]
        rw [smL] at h
        obtain ⟨h1, h2⟩ := h
        have hb := iB b (by simp at hn; omega) h2
        refine (bk_lx (kw_lx (z := "repeat") (.inl ⟨by decide +kernel, by decide +kernel, by decide +kernel⟩) (pE_lx e h1)) hb).to ?_
        rw [show csL (("repeat" : Str) :: (tkE e ++ ("{" : Str) :: (tkB b ++ (["}"] : List Str)))) = cs "repeat" :: (csL (tkE e) ++ cs "{" :: (csL (tkB b) ++ [cs "}"])) by simp, cs_lb, cs_rb]
        rfl
      | ite l c r a b =>
        rw [pS, tkS]
        rw [smL] at h
        obtain ⟨h1, h2, h3, h4⟩ := h
        have ha := iB a (by simp at hn; omega) h3
        have hb := iB b (by simp at hn; omega) h4
        have h5 := bk_lx (if_lx (c := c) h1 h2) ha
        by_cases hb0 : b = []
        · subst hb0
          rw [show pB [] = [] by rw [pB]]
          unfold pElse
          rw [if_pos rfl]
          refine h5.to ?_
          rw [if_pos (by rfl), ← cs_lb, ← cs_rb]
          simp
        · have h6 := bk_lastG (if_lx (c := c) h1 h2) ha
          have h7 := else_lx (ts := csL ("if" :: (tkE l ++ c.s :: tkE r)) ++ [123] :: csL (tkB a)) (h5.to (by simp)) (pBk_ne _ _ _) (by
            obtain ⟨x, y, q1, q2, q3⟩ := h6
            exact ⟨x, y, q1, q2, by rw [q3]; simp⟩) hb (fun q => hb0 (pB_nil.mp q))
          refine h7.to ?_
          rw [if_neg (by cases b with
            | nil => exact absurd rfl hb0
            | cons s b => simp), ← cs_lb, ← cs_rb]
          simp
    refine ⟨hS, fun b hn h => ?_⟩
    cases b with
    | nil => rw [pB, tkB]; exact .nil
    | cons s b =>
      rw [pB, tkB]
      rw [blL] at h
      rw [csL, List.map_append]
      exact (hS s (by simp at hn; omega) h.1).app (iB b (by simp at hn; omega) h.2)
theorem pText_lx {b : List Sm} (h : blL b) : LxT (pText b) (csL (tkB b)) := join_lx ((lines_lx _).2 b (Nat.lt_succ_self _) h)
theorem lex_text {b : List Sm} (h : blL b) : ∃ toks, lexAll (pText b) = .ok toks ∧ toks.map (·.tx) = tkB b := by
  obtain ⟨toks, h1, h2⟩ := lex_of (pText_lx h)
  refine ⟨toks, h1, ?_⟩
  rw [h2, List.map_map]
  have : (S ∘ cs) = (id : Str → Str) := funext fun z => S_cs z
  rw [this, List.map_id]
end Fb
namespace Fb
open PySem PySem.Spec PyProof.Rows L2 PySem.HandSPX SX
theorem print_parse {e : Ex} {ts : List Str} (h : TkR 17 e.lv e ts) : pScr 17 4 (("print" : Str) :: (ts ++ ([";"] : List Str))) = .ok [.simple .print e] [] := by
  have h1 : TkR 17 1 e ts := h.down (.inl rfl) (lv_3 e) (by rcases lv_3 e with q | q | q <;> omega)
  have h2 : pStm 17 4 (("print" : Str) :: (ts ++ ([";"] : List Str))) = .ok (.simple .print e) [] := by
    show stmP _ _ (Kw.print.s :: (ts ++ ([";"] : List Str))) = _
    rw [stmP_cons, kw_back]
    dsimp only
    rw [show ([";"] : List Str) = (";" : Str) :: [] from rfl, h1.parse sc_notPro sc_notSum, Rs.bind_ok, xp_eq, Rs.bind_ok]
  unfold pScr
  show scrLp (pStm 17 4) ((("print" : Str) :: (ts ++ ([";"] : List Str))).length + 1) [] (("print" : Str) :: (ts ++ ([";"] : List Str))) = _
  unfold scrLp
  dsimp only
  rw [h2, Rs.bind_ok]
  show scrLp (pStm 17 4) ((ts ++ ([";"] : List Str)).length + 1) [.simple .print e] [] = _
  rfl
theorem parse_block {b : List Sm} {l : List Nat} {toks : List Tok} (hW : ∀ s ∈ b, smW 8 4 s) (h : lexAll l = .ok toks) (ht : toks.map (·.tx) = tkB b) : parseT 17 4 l = some (.ok b) := by
  unfold parseT
  rw [h]
  dsimp only
  rw [ht, pScr_tk (D := 8) hW]
theorem parse_print {e : Ex} {ts : List Str} {l : List Nat} {toks : List Tok} (hT : TkR 17 e.lv e ts) (h : lexAll l = .ok toks) (ht : toks.map (·.tx) = ("print" : Str) :: (ts ++ ([";"] : List Str))) : parseT 17 4 l = some (.ok [.simple .print e]) := by
  unfold parseT
  rw [h]
  dsimp only
  rw [ht, print_parse hT]
theorem csL_S (ts : List Str) : ((csL ts).map S) = ts := by
  rw [List.map_map]
  have : (S ∘ cs) = (id : Str → Str) := funext fun z => S_cs z
  rw [this, List.map_id]
theorem mz_lex {ps : List (List Nat × List Nat)} {e : List Nat} {ts : List Str} (h : mzOk [] ps) (hp : ps.map (·.2) = csL ts) (he : e ∈ endsL) : ∃ toks, lexAll (mzT ps ++ e) = .ok toks ∧ toks.map (·.tx) = ts := by
  obtain ⟨toks, h1, h2⟩ := lex_mz he h
  refine ⟨toks, h1, ?_⟩
  rw [h2, show (ps.map fun p => S p.2) = (ps.map (·.2)).map S by rw [List.map_map]; rfl, hp, csL_S]
theorem tk_sum : ∀ (t : List Nat) (x : List (List Nat) × List Nat), ((tkRun x t).1.map List.length).sum + (tkRun x t).2.length ≤ (x.1.map List.length).sum + x.2.length + t.length
  | [], x => by simp [tkRun]
  | c :: t, x => by
    have ih := tk_sum t (tkStep x c)
    have h1 : ((tkStep x c).1.map List.length).sum + (tkStep x c).2.length ≤ (x.1.map List.length).sum + x.2.length + 1 := by
      unfold tkStep
      by_cases hw : wdC c = true
      · rw [if_pos hw]; simp only [List.length_append, List.length_cons, List.length_nil]; omega
      · rw [if_neg hw]
        have hT : ((if x.2 = [] then x.1 else x.1 ++ [x.2]).map List.length).sum ≤ (x.1.map List.length).sum + x.2.length := by
          by_cases e : x.2 = []
          · rw [if_pos e]; omega
          · rw [if_neg e]
            simp
        dsimp only
        generalize (if x.2 = [] then x.1 else x.1 ++ [x.2]) = T at hT
        by_cases hc : T ≠ [] ∧ c = 61 ∧ sigE (T.getLastD []) = true
        · rw [if_pos hc]
          obtain ⟨U, y, rfl⟩ : ∃ U y, T = U ++ [y] := ⟨T.dropLast, T.getLast hc.1, (List.dropLast_concat_getLast hc.1).symm⟩
          rw [List.dropLast_concat, lastD_snoc]
          simp at hT ⊢
          omega
        · rw [if_neg hc]
          by_cases hs : c = 32 ∨ c = 10
          · rw [if_pos hs]; simp only [List.length_nil]; omega
          · rw [if_neg hs]; simp; omega
    show ((tkRun (tkStep x c) t).1.map List.length).sum + (tkRun (tkStep x c) t).2.length ≤ _
    simp only [List.length_cons]
    omega
theorem lawTok_size (t : List Nat) : ((lawTok t).map List.length).sum + 11 * (lawTok t).length ≤ 12 * (t.length + 1) := by
  have h1 := tk_sum (t ++ [32]) ([], [])
  have h2 := tkRun_len (t ++ [32]) ([], [])
  unfold lawTok
  simp only [List.length_append, List.length_cons, List.length_nil, List.map_nil, List.sum_nil] at h1 h2
  omega
theorem i_fmt {K : PySem.W.Frag} {CS : Addr} {H : Hp} {Q : VK} {E : XK} {l : List Nat} {b : List Sm} (hl : l.length ≤ 15000000) (hp : parseT 17 4 l = some (.ok b)) (hL : blL b) (hW : ∀ s ∈ b, smW 8 4 s) (hB : LnB 2000000 2000000 (pB b)) (hT : (pText b).length ≤ 8000000) (k : ∀ H', Same H H' → Q (.str (S (pText b))) H') : spFmt K CS 17 4 8 4 [.str (S l)] H Q E :=
  ⟨l, rfl, hl, by rw [hp]; exact ⟨hL, hW, hB, hT, k⟩⟩
theorem pr_text (e : Ex) : pText [.simple .print e] = cs "print" ++ 32 :: (pE e ++ [59]) := by
  unfold pText
  rw [pB, pB, pS]
  rfl
end Fb
namespace Fb
open PySem PySem.Spec PyProof.Rows L2 PySem.HandSPX SX
def spLaw (K : PySem.W.Frag) : Sp := fun vs H Q _ => ∃ (a : Addr) (ns : List Int), vs = [.ref a] ∧ SqL K H a (iV ns) ∧ ns.length ≤ 63 ∧ ∀ H', Q (.bl true) H'
section
variable {P : Program} {w0 : World} {K : PySem.W.Frag} {mg : Str → Option Value} {base : Heap}
set_option maxHeartbeats 0 in
theorem ok_law (A : All K mg) {CS : Addr} (KS : KxScriptSyntaxError K mg CS) {f : Addr} {fd : FuncData} (Fl : Fun K "law" "law" s_law f fd) : FnOk P w0 K mg base (L2N.CX P w0) 75 f fd ["_law_script_here"] (spLaw K) := by
  obtain ⟨CT, OT, mT⟩ := A.k_Token
  obtain ⟨CP, O, mP, m1, m2, m3, m4, m5, m6, m7, m8, m9, m10, m11, m12, m13, m14, m15⟩ := A.k_Parser
  have PK : PsK K mg CT CP CS := ⟨A, KS, OT, mT, O, mP, m1, m2, m3, m4, m5, m6, m7, m8, m9, m10, m11, m12, m13, m14, m15⟩
  have c_parse_script := ok_parse_script (P := P) (w := w0) (base := base) PK 17 4
  have c_print_script := ok_print_script (P := P) (w := w0) (base := base) A 8 4
  have c_format_script : Cal P w0 K mg base 74 "format_script" (spFmt K CS 17 4 8 4) := ok_format_script A (lv := 73) c_parse_script (c_print_script.mono (by decide))
  have c_law_start := ok_law_start (P := P) (w := w0) (base := base) A
  have c_law_drawn := ok_law_drawn (P := P) (w := w0) (base := base) A
  have c_law_value3 := ok_law_value A c_law_drawn 3
  have c_law_value : Cal P w0 K mg base 6 "_law_value" (spVal K 5) := ok_law_value A c_law_drawn 5
  have c_law_block : Cal P w0 K mg base 14 "_law_block" (spBl K 4) := (law_sb A c_law_drawn c_law_value3 4).2
  have c_law_print := ok_law_print (P := P) (w := w0) (base := base) A 6
  have c_law_script := ok_law_script (P := P) (w := w0) (base := base) A 8 4 (by decide)
  have c_law_tokens := ok_law_tokens (P := P) (w := w0) (base := base) A
  have c_law_messy := ok_law_messy A c_law_drawn
  have c_law_wrapped := (law_wr A c_law_drawn 6).1
  refine Fl.okN sc_law (fun vs H Q E h => ?_) (fun cdv A' outer s00 H0 vs Q E hr h => ?_)
  · obtain ⟨a, ns, rfl, _⟩ := h
    rfl
  · obtain ⟨a, ns, rfl, hs, hl, kEnd⟩ := h
    suffices key : ∃ t, PSs (cxOf (L2N.CX P w0) P w0 K mg base _ "law" (defScope s_law) f cdv A' outer s00 H0 E).nox (defBody s_law) t ∧ t { nx := fun _ H' => Q .non H', rt := Q } (start _ [.ref a]) H0 by
      obtain ⟨t, p, q⟩ := key
      exact ⟨t, p.nox, q⟩
    refine ⟨_, (pss_cons (ps_set (i := 1) sc_law.nd rfl (Or.inl rfl) (pc c_law_start hr (by decide) (pa_cons (pv 0) pa_nil)))
 (pss_cons (ps_for PassesOwn.never rfl (pi_range1 (by rfl) A.b_range (pa_cons pe_int pa_nil)) (pg_name (i := 2) sc_law.nd rfl (Or.inl rfl))
 (pss_cons (ps_set (i := 3) sc_law.nd rfl (Or.inl rfl) (pc c_law_block hr (by decide) (pa_cons (pv 1) (pa_cons pe_int pa_nil))))
 (pss_cons (ps_set (i := 4) sc_law.nd rfl (Or.inl rfl) (pc c_law_script hr (by decide) (pa_cons (pv 3) pa_nil)))
 (pss_cons (ps_set (i := 5) sc_law.nd rfl (Or.inl rfl) (pc c_law_messy hr (by decide) (pa_cons (pv 1) (pa_cons (pc c_law_tokens hr (by decide) (pa_cons (pv 4) pa_nil)) pa_nil))))
 (pss_cons (ps_if (PW.pt (pw_or (pt_cmpR op_ne (pc c_format_script hr (by decide) (pa_cons (pv 5) pa_nil)) (pv 4) (nomark _)) (pw_or1 (pt_cmpR op_ne (pc c_format_script hr (by decide) (pa_cons (pv 4) pa_nil)) (pv 4) (nomark _))))) (pss_one (ps_ret pe_bl)) pss_nil)
 (pss_cons (ps_set (i := 6) sc_law.nd rfl (Or.inl rfl) (pc c_law_value hr (by decide) (pa_cons (pv 1) (pa_cons pe_int pa_nil))))
 (pss_cons (ps_set (i := 4) sc_law.nd rfl (Or.inl rfl) (pe_op op_add_str (pe_op op_add_str pe_str (pc c_law_print hr (by decide) (pa_cons (pv 6) (pa_cons pe_int pa_nil)))) pe_str))
 (pss_cons (ps_set (i := 5) sc_law.nd rfl (Or.inl rfl) (pc c_law_messy hr (by decide) (pa_cons (pv 1) (pa_cons (pc c_law_tokens hr (by decide) (pa_cons (pe_op op_add_str (pe_op op_add_str pe_str (pc c_law_wrapped hr (by decide) (pa_cons (pv 1) (pa_cons (pv 6) pa_nil)))) pe_str) pa_nil)) pa_nil))))
 (pss_one (ps_if (pt_cmpR op_ne (pc c_format_script hr (by decide) (pa_cons (pv 5) pa_nil)) (pv 4) (nomark _)) (pss_one (ps_ret pe_bl)) pss_nil))))))))))
 (pss_one (ps_ret pe_bl)))), ?_⟩
    clear c_parse_script c_print_script c_law_value3 c_law_drawn
    walk_at "begin"
    refine ⟨a, ns, rfl, hs, fun h m H1 nh e1 hh => ?_⟩
    have hS : SrcOk K [] H0 h a := Scr.first hs hl nh
    have st : Stt [] H0 (dL h a 0 m 0 []) [] H1 := (Stt.init H0).fresh nh e1 hh trivial
    walk_at "go"
    refine ⟨_, rfl, by omega, by omega, ForIt.go walk_range (fun j σ H => ∃ (i : Nat) (m r : Int) (s2 s3 s4 s5 s6 : Option V), σ = [some (.ref a), some (.ref h), s2, s3, s4, s5, s6] ∧ Stt [] H0 (dL h a i m r []) [] H) ⟨0, m, 0, _, _, _, _, _, rfl, st⟩ (fun _ _ _ _ _ => trivial) ?_ ?_⟩
    · clear st hh nh e1
      rintro j x σ H H' hj ⟨i, m, r, s2, s3, s4, s5, s6, rfl, st⟩ ⟨rfl, rfl⟩
      walk_at "go"
      refine ⟨h, a, 3, rfl, st.dr hS, by decide, fun v b H1 dv hN hA ex dr' => ?_⟩
      obtain ⟨i, m, r, st⟩ := st.drn ex dr'
      have st := st.know dv Pers.dt
      have hL : blL b := blS_L hN
      have hW : ∀ s ∈ b, smW 8 4 s := fun s hs => smW_mono (by decide) (by decide) (smS_W (hN.2 s hs))
      have hB : LnB 2000000 2000000 (pB b) := (pB_len3 (by decide) hN).mono (by decide) (by decide)
      have hT : (pText b).length ≤ 1050000 := pText_len (by decide) hN
      have hT8 : (pText b).length ≤ 8000000 := by omega
      walk_at "go"
      refine ⟨v, b, rfl, st.pers 0 rfl, hL, hW, hB, hT8, fun H2 s2' => ?_⟩
      have st := st.ext s2'
      walk_at "go"
      refine ⟨pText b, rfl, hT8, fun tk H3 ntk s3' htk => ?_⟩
      have hne : tk ≠ h := fun e => by
        have q := st.at 0 rfl
        rw [e] at ntk
        rw [ntk] at q
        cases q
      have st := st.ext s3'
      have hsz := lawTok_size (pText b)
      rw [lawTok_text hL] at htk hsz
      walk_at "go"
      refine ⟨h, a, tk, csL (tkB b), rfl, st.dr hS, hne, htk, fun t ht => ?_, by omega, fun ps e H4 hm hp he hlen ex dr' => ?_⟩
      · obtain ⟨z, hz, rfl⟩ := List.mem_map.mp ht
        exact tkB_tok hL z hz
      obtain ⟨i, m, r, st⟩ := st.drn ex dr'
      obtain ⟨toks, l1, l2⟩ := mz_lex hm hp he
      have hp1 := parse_block hW l1 l2
      generalize mzT ps ++ e = mt at hlen hp1
      walk_at "go"
      refine i_fmt (by omega) hp1 hL hW hB hT8 fun H5 s5' => ?_
      have st := st.ext s5'
      walk_at "go"
      refine ifF (by rw [decide_eq_true rfl]; rfl) ?_
      walk_at "go"
      obtain ⟨toks2, l3, l4⟩ := lex_text hL
      refine i_fmt (by omega) (parse_block hW l3 l4) hL hW hB hT8 fun H6 s6' => ?_
      have st := st.ext s6'
      walk_at "go"
      refine ifF (by rw [decide_eq_true rfl]; rfl) ?_
      refine i_next ?_
      have st := st.forget
      clear htk hsz hp1 l1 l2 l3 l4 hT hT8 hB hW hL hN dv
      walk_at "go"
      refine ⟨h, a, 4, rfl, st.dr hS, by decide, fun v2 e2 H7 dv hN hdp ex dr' => ?_⟩
      obtain ⟨i, m, r, st⟩ := st.drn ex dr'
      have st := st.know dv Pers.dt
      have hL := exN_L hN
      have hpl := pE_len e2 hL
      have hpw : 27 * 2 ^ e2.dp ≤ 27 * 32 := Nat.mul_le_mul_left _ (Nat.pow_le_pow_right (n := 2) (by decide) (show e2.dp ≤ 5 by omega))
      have hpw2 : 31 * 2 ^ e2.dp ≤ 31 * 32 := Nat.mul_le_mul_left _ (Nat.pow_le_pow_right (n := 2) (by decide) (show e2.dp ≤ 5 by omega))
      walk_at "go"
      refine ⟨v2, e2, 1, rfl, st.pers 0 rfl, hL, by omega, by omega, fun H8 s8' => ?_⟩
      have st := st.ext s8'
      have c6 : (cs "print ").length = 6 := by decide +kernel
      have c1 : (cs ";").length = 1 := by decide +kernel
      rw [pO1]
      refine i_addA (by rw [c6, cs_S]; omega) ?_
      rw [app_cs]
      walk_at "go"
      refine i_addA (by rw [c1, cs_S, List.length_append, c6, cs_S]; omega) ?_
      rw [app_cs]
      have ept : cs (S (cs "print " ++ cs (S (pE e2)))) ++ cs ";" = pText [.simple .print e2] := by
        rw [pr_text]
        simp only [cs_S]
        rw [show cs "print " = cs "print" ++ [32] by decide +kernel, show cs ";" = [59] by decide +kernel]
        simp
      rw [ept]
      have hL1 : blL [.simple .print e2] := blL_mem.mpr fun s hs => by
        rw [List.mem_singleton.mp hs, smL]
        exact hL
      have hW1 : ∀ s ∈ [Sm.simple .print e2], smW 8 4 s := fun s hs => by
        rw [List.mem_singleton.mp hs]
        exact ⟨exL_W hL, by omega⟩
      have hl1 : (cs "print" ++ 32 :: (pE e2 ++ [59])).length ≤ 2000000 := by
        rw [List.length_append, show (cs "print").length = 5 by decide +kernel]
        simp only [List.length_cons, List.length_append, List.length_nil]
        omega
      have hB1 : LnB 2000000 2000000 (pB [.simple .print e2]) := by
        rw [pB, pB, pS]
        exact (LnB.one hl1).mono (by decide) (Nat.le_refl _)
      have hT1 : (pText [.simple .print e2]).length ≤ 8000000 := by rw [pr_text]; omega
      walk_at "go"
      refine ⟨h, a, v2, e2, rfl, st.dr hS, st.pers 0 rfl, hL, by omega, by decide, fun t ts H9 hrn htk hlen ex dr' => ?_⟩
      obtain ⟨i, m, r, st⟩ := st.drn ex dr'
      refine i_addA (by rw [c6, cs_S]; omega) ?_
      rw [app_cs]
      walk_at "go"
      refine i_addA (by rw [c1, cs_S, List.length_append, c6, cs_S]; omega) ?_
      rw [app_cs]
      have ept2 : cs (S (cs "print " ++ cs (S t))) ++ cs ";" = cs "print" ++ 32 :: (t ++ [59]) := by
        simp only [cs_S]
        rw [show cs "print " = cs "print" ++ [32] by decide +kernel, show cs ";" = [59] by decide +kernel]
        simp
      rw [ept2]
      have hlt : (cs "print" ++ 32 :: (t ++ [59])).length ≤ 1000 := by
        rw [List.length_append, show (cs "print").length = 5 by decide +kernel]
        simp only [List.length_cons, List.length_append, List.length_nil]
        omega
      have hrt : RnT (cs "print" ++ 32 :: (t ++ [59])) (csL (("print" : Str) :: (ts ++ ([";"] : List Str)))) := kw_rn (z := "print") ⟨by decide +kernel, by decide +kernel⟩ (semi_rn hrn)
      have hlw := lawTok_of hrt
      walk_at "go"
      refine ⟨_, rfl, by omega, fun tk H10 ntk s10 hk => ?_⟩
      have hne : tk ≠ h := fun e => by
        have q := st.at 0 rfl
        rw [e] at ntk
        rw [ntk] at q
        cases q
      have st := st.ext s10
      have hsz := lawTok_size (cs "print" ++ 32 :: (t ++ [59]))
      rw [hlw] at hk hsz
      walk_at "go"
      refine ⟨h, a, tk, _, rfl, st.dr hS, hne, hk, fun y hy => ?_, by omega, fun ps e H11 hm hp he hlen ex dr' => ?_⟩
      · obtain ⟨z, hz, rfl⟩ := List.mem_map.mp hy
        rcases List.mem_cons.mp hz with rfl | hz
        · exact wd_tok ⟨by decide +kernel, by decide +kernel, by decide +kernel⟩
        · rcases List.mem_append.mp hz with hz | hz
          · exact htk.toks hL z hz
          · rw [List.mem_singleton.mp hz]
            exact tok_sg (by decide +kernel)
      obtain ⟨i, m, r, st⟩ := st.drn ex dr'
      obtain ⟨toks, l1, l2⟩ := mz_lex hm hp he
      have hp1 := parse_print (htk.mono (by omega)) l1 l2
      generalize mzT ps ++ e = mt at hlen hp1
      walk_at "go"
      refine i_fmt (by omega) hp1 hL1 hW1 hB1 hT1 fun H12 s12 => ?_
      have st := st.ext s12
      walk_at "go"
      refine ifF (by rw [decide_eq_true rfl]; rfl) ?_
      refine i_next ?_
      exact ⟨i, m, r, _, _, _, _, _, rfl, st.forget⟩
    · rintro σ H ⟨i, m, r, s2, s3, s4, s5, s6, rfl, st⟩
      walk_at "go"
      exact kEnd _
end
end Fb
namespace Fb
open PySem PySem.Spec PyProof.Rows L2 PySem.HandSPX
theorem He_e {K : PySem.W.Frag} (h : (hd_es.all fun f => f K) = true) (i : Nat) {f : PySem.W.Frag → Bool} (e : hd_es[i]? = some f) : f K = true := List.all_eq_true.mp h f (List.mem_of_getElem? e)
theorem hd_exo_ScriptSyntaxError {K : PySem.W.Frag} {h : Heap} {mg : Str → Option Value} (KX : K.In h) (G : h.Ns mainGlobals mg) (a : mg "ScriptSyntaxError" = some (.ref (He.ga K "ScriptSyntaxError"))) (b : mg "FerryError" = some (.ref (He.ga K "FerryError"))) (c : hdInit K "ScriptSyntaxError" ["row", "column"] = true) (d : hdFe K = true) (F : ∃ fd, FunD K "__init__" "ScriptSyntaxError.__init__" (defArgs s_ScriptSyntaxError___init) (defBody s_ScriptSyntaxError___init) (defScope s_ScriptSyntaxError___init) [] [] (He.fAd K ("ScriptSyntaxError", some "__init__")) fd) : KxScriptSyntaxError K mg (He.ga K "ScriptSyntaxError") := by
  obtain ⟨fd, F⟩ := F
  obtain ⟨⟨oc, od, kV, doc, pm, an, cdv, ct, osl, e, l, cc⟩, kp⟩ := hd_fun F
  subst e
  obtain ⟨c1, c2⟩ := hdInit_ok c
  obtain ⟨d1, d2, d3⟩ := hdFe_ok d
  exact KxScriptSyntaxError.mk' a c1 l cc kp c2 b d1 d2 d3
theorem hd_all {w : World} {K : PySem.W.Frag} {h : Heap} {mg : Str → Option Value} (KX : K.In h) (G : h.Ns mainGlobals mg) (c0 : hd_p0.says w h K) (c1 : hd_p1.says w h K) (c2 : hd_p2.says w h K) : All K mg :=
  ⟨(hd_def KX G (c0.t.d.fact 0 (f := .glo "end_of_run") rfl) (c1.t.d.def_ 0 (d := hdd_end_of_run) rfl)),
  (hd_def KX G (c0.t.d.fact 1 (f := .glo "token_at") rfl) (c1.t.d.def_ 1 (d := hdd_token_at) rfl)),
  (hd_def KX G (c0.t.d.fact 2 (f := .glo "tokenize") rfl) (c1.t.d.def_ 2 (d := hdd_tokenize) rfl)),
  (hd_def KX G (c0.t.d.fact 3 (f := .glo "parse_script") rfl) (c1.t.d.def_ 3 (d := hdd_parse_script) rfl)),
  (hd_def KX G (c0.t.d.fact 4 (f := .glo "level_of") rfl) (c1.t.d.def_ 4 (d := hdd_level_of) rfl)),
  (hd_def KX G (c0.t.d.fact 5 (f := .glo "print_operand") rfl) (c1.t.d.def_ 5 (d := hdd_print_operand) rfl)),
  (hd_def KX G (c0.t.d.fact 6 (f := .glo "print_expression") rfl) (c1.t.d.def_ 6 (d := hdd_print_expression) rfl)),
  (hd_def KX G (c0.t.d.fact 7 (f := .glo "print_target") rfl) (c1.t.d.def_ 7 (d := hdd_print_target) rfl)),
  (hd_def KX G (c0.t.d.fact 8 (f := .glo "print_block") rfl) (c1.t.d.def_ 8 (d := hdd_print_block) rfl)),
  (hd_def KX G (c0.t.d.fact 9 (f := .glo "print_statement") rfl) (c1.t.d.def_ 9 (d := hdd_print_statement) rfl)),
  (hd_def KX G (c0.t.d.fact 10 (f := .glo "print_lines") rfl) (c1.t.d.def_ 10 (d := hdd_print_lines) rfl)),
  (hd_def KX G (c0.t.d.fact 11 (f := .glo "print_script") rfl) (c1.t.d.def_ 11 (d := hdd_print_script) rfl)),
  (hd_def KX G (c0.t.d.fact 12 (f := .glo "format_script") rfl) (c1.t.d.def_ 12 (d := hdd_format_script) rfl)),
  (hd_def KX G (c0.t.d.fact 13 (f := .glo "_law_start") rfl) (c1.t.d.def_ 13 (d := hdd_law_start) rfl)),
  (hd_def KX G (c0.t.d.fact 14 (f := .glo "_law_drawn") rfl) (c1.t.d.def_ 14 (d := hdd_law_drawn) rfl)),
  (hd_def KX G (c0.t.d.fact 15 (f := .glo "_law_value") rfl) (c1.t.d.def_ 15 (d := hdd_law_value) rfl)),
  (hd_def KX G (c0.t.d.fact 16 (f := .glo "_law_statement") rfl) (c1.t.d.def_ 16 (d := hdd_law_statement) rfl)),
  (hd_def KX G (c0.t.d.fact 17 (f := .glo "_law_block") rfl) (c1.t.d.def_ 17 (d := hdd_law_block) rfl)),
  (hd_def KX G (c0.t.d.fact 18 (f := .glo "_law_level") rfl) (c1.t.d.def_ 18 (d := hdd_law_level) rfl)),
  (hd_def KX G (c0.t.d.fact 19 (f := .glo "_law_print") rfl) (c1.t.d.def_ 19 (d := hdd_law_print) rfl)),
  (hd_def KX G (c0.t.d.fact 20 (f := .glo "_law_lines") rfl) (c1.t.d.def_ 20 (d := hdd_law_lines) rfl)),
  (hd_def KX G (c0.t.d.fact 21 (f := .glo "_law_compound") rfl) (c1.t.d.def_ 21 (d := hdd_law_compound) rfl)),
  (hd_def KX G (c0.t.d.fact 22 (f := .glo "_law_script") rfl) (c1.t.d.def_ 22 (d := hdd_law_script) rfl)),
  (hd_def KX G (c0.t.d.fact 23 (f := .glo "_law_tokens") rfl) (c1.t.d.def_ 23 (d := hdd_law_tokens) rfl)),
  (hd_def KX G (c0.t.d.fact 24 (f := .glo "_law_glues") rfl) (c2.t.d.def_ 0 (d := hdd_law_glues) rfl)),
  (hd_def KX G (c0.t.d.fact 25 (f := .glo "_law_messy") rfl) (c2.t.d.def_ 1 (d := hdd_law_messy) rfl)),
  (hd_def KX G (c0.t.d.fact 26 (f := .glo "_law_wrapped") rfl) (c2.t.d.def_ 2 (d := hdd_law_wrapped) rfl)),
  (hd_def KX G (c0.t.d.fact 27 (f := .glo "_law_wrapped_operand") rfl) (c2.t.d.def_ 3 (d := hdd_law_wrapped_operand) rfl)),
  (hd_def KX G (c0.t.d.fact 28 (f := .glo "law") rfl) (c2.t.d.def_ 4 (d := hdd_law) rfl)),
  (He.free_ok KX G (c0.t.d.fact 29 (f := .free "len") rfl)),
  (He.free_ok KX G (c0.t.d.fact 30 (f := .free "enumerate") rfl)),
  (He.free_ok KX G (c0.t.d.fact 31 (f := .free "int") rfl)),
  (He.free_ok KX G (c0.t.d.fact 32 (f := .free "tuple") rfl)),
  (He.free_ok KX G (c0.t.d.fact 33 (f := .free "str") rfl)),
  (He.free_ok KX G (c0.t.d.fact 34 (f := .free "isinstance") rfl)),
  (He.free_ok KX G (c0.t.d.fact 35 (f := .free "list") rfl)),
  (He.free_ok KX G (c0.t.d.fact 36 (f := .free "range") rfl)),
  (He.free_ok KX G (c0.t.d.fact 37 (f := .free "bool") rfl)),
  (He.str_ok KX G (c0.t.d.fact 43 (f := .str "LETTERS" "abcdefghijklmnopqrstuvwxyz") rfl)),
  (He.int_ok KX G (c0.t.d.fact 38 (f := .int "MAX_LETTERS" 8) rfl)),
  (He.str_ok KX G (c0.t.d.fact 44 (f := .str "DIGITS" "0123456789") rfl)),
  (He.int_ok KX G (c0.t.d.fact 39 (f := .int "MAX_DIGITS" 18) rfl)),
  (hdTup_ok KX G (c0.t.d.fact 50 (f := .glo "SIGNS") rfl) (He_e c0.more 0 (f := hd_e0) rfl)),
  (He.str_ok KX G (c0.t.d.fact 45 (f := .str "WORD" "word") rfl)),
  (He.str_ok KX G (c0.t.d.fact 46 (f := .str "NUMBER" "number") rfl)),
  (He.str_ok KX G (c0.t.d.fact 47 (f := .str "SIGN" "sign") rfl)),
  (He.str_ok KX G (c0.t.d.fact 48 (f := .str "COMMENT" "#") rfl)),
  (hdTup_ok KX G (c0.t.d.fact 51 (f := .glo "SIMPLE") rfl) (He_e c0.more 1 (f := hd_e1) rfl)),
  (hdTup_ok KX G (c0.t.d.fact 52 (f := .glo "RESERVED") rfl) (He_e c0.more 2 (f := hd_e2) rfl)),
  (hdTup_ok KX G (c0.t.d.fact 53 (f := .glo "COMPARISONS") rfl) (He_e c0.more 3 (f := hd_e3) rfl)),
  (hdTup_ok KX G (c0.t.d.fact 54 (f := .glo "SUM_OPERATORS") rfl) (He_e c0.more 4 (f := hd_e4) rfl)),
  (hdTup_ok KX G (c0.t.d.fact 55 (f := .glo "PRODUCT_OPERATORS") rfl) (He_e c0.more 5 (f := hd_e5) rfl)),
  (He.str_ok KX G (c0.t.d.fact 49 (f := .str "INDENT" "  ") rfl)),
  (He.int_ok KX G (c0.t.d.fact 40 (f := .int "SUM_LEVEL" 1) rfl)),
  (He.int_ok KX G (c0.t.d.fact 41 (f := .int "PRODUCT_LEVEL" 2) rfl)),
  (He.int_ok KX G (c0.t.d.fact 42 (f := .int "FACTOR_LEVEL" 3) rfl)),
  ⟨_, hd_cls KX G (c0.t.d.fact 56 (f := .glo "Token") rfl) (c0.t.d.fact 57 (f := .cls "Token") rfl) (no_cons (He.noat_ok (c0.t.d.fact 58 (f := .noat "Token" "form") rfl)) (no_cons (He.noat_ok (c0.t.d.fact 59 (f := .noat "Token" "text") rfl)) (no_cons (He.noat_ok (c0.t.d.fact 60 (f := .noat "Token" "place") rfl)) no_nil))), hd_mk (c0.t.d.fact 61 (f := .mkr "Token") rfl) (c2.t.d.def_ 5 (d := hdd_Token___init) rfl)⟩,
  ⟨_, hd_cls KX G (c0.t.d.fact 62 (f := .glo "Parser") rfl) (c0.t.d.fact 63 (f := .cls "Parser") rfl) (no_cons (He.noat_ok (c0.t.d.fact 64 (f := .noat "Parser" "tokens") rfl)) (no_cons (He.noat_ok (c0.t.d.fact 65 (f := .noat "Parser" "cursor") rfl)) (no_cons (He.noat_ok (c0.t.d.fact 66 (f := .noat "Parser" "line_count") rfl)) no_nil))), hd_mk (c0.t.d.fact 67 (f := .mkr "Parser") rfl) (c2.t.d.def_ 6 (d := hdd_Parser___init) rfl), hd_met (c0.t.d.fact 68 (f := .meth "Parser" "fail") rfl) (c2.t.d.def_ 7 (d := hdd_Parser_fail) rfl), hd_met (c0.t.d.fact 69 (f := .meth "Parser" "peek") rfl) (c2.t.d.def_ 8 (d := hdd_Parser_peek) rfl), hd_met (c0.t.d.fact 70 (f := .meth "Parser" "sees_form") rfl) (c2.t.d.def_ 9 (d := hdd_Parser_sees_form) rfl), hd_met (c0.t.d.fact 71 (f := .meth "Parser" "accept") rfl) (c2.t.d.def_ 10 (d := hdd_Parser_accept) rfl), hd_met (c0.t.d.fact 72 (f := .meth "Parser" "expect") rfl) (c2.t.d.def_ 11 (d := hdd_Parser_expect) rfl), hd_met (c0.t.d.fact 73 (f := .meth "Parser" "take") rfl) (c2.t.d.def_ 12 (d := hdd_Parser_take) rfl), hd_met (c0.t.d.fact 74 (f := .meth "Parser" "take_name") rfl) (c2.t.d.def_ 13 (d := hdd_Parser_take_name) rfl), hd_met (c0.t.d.fact 75 (f := .meth "Parser" "parse_script") rfl) (c2.t.d.def_ 14 (d := hdd_Parser_parse_script) rfl), hd_met (c0.t.d.fact 76 (f := .meth "Parser" "parse_block") rfl) (c2.t.d.def_ 15 (d := hdd_Parser_parse_block) rfl), hd_met (c0.t.d.fact 77 (f := .meth "Parser" "parse_statement") rfl) (c2.t.d.def_ 16 (d := hdd_Parser_parse_statement) rfl), hd_met (c0.t.d.fact 78 (f := .meth "Parser" "parse_link") rfl) (c2.t.d.def_ 17 (d := hdd_Parser_parse_link) rfl), hd_met (c0.t.d.fact 79 (f := .meth "Parser" "parse_if") rfl) (c2.t.d.def_ 18 (d := hdd_Parser_parse_if) rfl), hd_met (c0.t.d.fact 80 (f := .meth "Parser" "parse_sum") rfl) (c2.t.d.def_ 19 (d := hdd_Parser_parse_sum) rfl), hd_met (c0.t.d.fact 81 (f := .meth "Parser" "parse_product") rfl) (c2.t.d.def_ 20 (d := hdd_Parser_parse_product) rfl), hd_met (c0.t.d.fact 82 (f := .meth "Parser" "parse_factor") rfl) (c2.t.d.def_ 21 (d := hdd_Parser_parse_factor) rfl)⟩⟩
theorem hd_law {P : Program} {fa : Addr} {w : World} {K : PySem.W.Frag} {h : Heap} {mg : Str → Option Value} (KX : K.In h) (G : h.Ns mainGlobals mg) (hmg : mg "law" = some (.ref fa)) (c : ∀ p ∈ hd_ps, p.says w h K) : ∃ fd : FuncData, (∀ (s : Shared) (u : Value), BindsTo s fd ⟨[u], []⟩ [("_law_script_here", u)]) ∧ ∀ base : Heap, K.In base → base.Ns mainGlobals mg → FnOk P w K mg base (L2N.CX P w) 75 fa fd ["_law_script_here"] (spLaw K) := by
  have c0 := c hd_p0 (by simp [hd_ps])
  have c1 := c hd_p1 (by simp [hd_ps])
  have c2 := c hd_p2 (by simp [hd_ps])
  have A := hd_all KX G c0 c1 c2
  exact fin_of A.d_law hmg (fun _ _ _ _ _ _ us hl => match us, hl with | [_], _ => rfl) fun base f fd F => ok_law A
    (hd_exo_ScriptSyntaxError KX G (He.glo_ok KX G (c0.t.d.fact 84 (f := .glo "ScriptSyntaxError") rfl)) (He.glo_ok KX G (c0.t.d.fact 83 (f := .glo "FerryError") rfl)) (He_e c0.more 7 (f := hd_e7) rfl) (He_e c0.more 8 (f := hd_e8) rfl) (c2.t.d.def_ 22 (d := hdd_ScriptSyntaxError___init) rfl)) F
end Fb
theorem PySem.Challenge.cw_fullboats_k45_canonical_form_holds : PySem.Challenge.rw_fullboats_k45_canonical_form.Holds := by
  refine Fb.hd_fin fun w mg fa h Y G hmg => ?_
  obtain ⟨K, KX, c⟩ := Y
  obtain ⟨fd, hb, hF⟩ := Fb.hd_law (P := PySem.Challenge.rw_fullboats_k45_canonical_form.prog) KX G hmg c
  exact ⟨K, KX, fd, [], Fb.spLaw K, fun p hp => (by cases hp), fun p hp => (by cases hp), fun p hp => (by cases hp), hb, fun H a ns hl _ _ hS => ⟨a, ns, rfl, hS, hl, fun _ => rfl⟩, fun base KI G' _ => hF base KI G'⟩
