import PyProof.Rows.All
import Wide.All
import OpenK.AllK
import Wide.FinOn
import HandS.Head0
import HandS.Head1
import HandS.Head2
import HandS.HeadEnd
import HandS.HeadHook1
import HandS.HeadHook2
import KE.KStateDown
import HandS.TupMul
import HandS.Dict
import KE.GoesMore
import KE.GoesEnum
import HandS.Iter
import HandS.Style
import HandS.List
import KE.KRevSl
import HandS.ForMost
import HandS.Deep
import HandS.TupAny
import HandS.Wide
import HandS.SortInts
import HandS.Flow
import KE.LtData
import KE.SortData
import PyProof.TupleOfSeq
import HandS.Conv
import HandS.Star
import HandS.IsInst
import PyProof.P3In
import PyProof.ReprLen
import PySem.Challenge.RW_roundswaps_k15_parkings_judged
set_option Elab.async false
set_option linter.all false
set_option maxRecDepth 100000
set_option maxHeartbeats 0
namespace Pm
open PySem PySem.Spec PyProof.Rows L2
/-! ### tuple * k: the tuple itself, or the empty one -/
theorem tup_mul_same (l : Addr) (items : Array Value) (n : Nat) (dd : Option Addr) (sl : Array (Option Value)) (x : Int) (u : Tok) (c0 : (decide (x < -(2 ^ 63)) || decide (x ≥ 2 ^ 63)) = false) (c1 : (items.isEmpty || x == 1) = true) :
    Meets (Builtin.«tuple.__mul__» ⟨[.ref l, .int x u], []⟩) (fun _ R s => s.heap.get? l = some { cls := .type "tuple", dict := dd, data := .seq items n, slots := sl } ∧ R (.ok (.ret (Value.ref l))) s) :=
  .of_wp fun prog w A R s h => by
    obtain ⟨hp, g, d, tk, os⟩ := s
    obtain ⟨hl, h⟩ := h
    have f1 := AutoSeq1.idx_int
    have f2 := AutoSeq1.sub_tuple_tuple
    wp_walk using wpAny_loadPart' hl
    repeat (first
      | (refine wpAny_ite_false (decide_eq_false (by rw [c0]; exact Bool.false_ne_true)) ?_; wp_walk using wpAny_loadPart' hl)
      | (refine wpAny_ite_true (decide_eq_true c1) ?_; wp_walk using wpAny_loadPart' hl))
    exact ⟨_, rfl, h⟩
theorem tup_mul_none (l : Addr) (items : Array Value) (n : Nat) (dd : Option Addr) (sl : Array (Option Value)) (x : Int) (u : Tok) (c0 : (decide (x < -(2 ^ 63)) || decide (x ≥ 2 ^ 63)) = false) (c1 : (items.isEmpty || x == 1) = false) (c2 : (decide (x ≤ 0) || items.isEmpty) = true) :
    Meets (Builtin.«tuple.__mul__» ⟨[.ref l, .int x u], []⟩) (fun _ R s => s.heap.get? l = some { cls := .type "tuple", dict := dd, data := .seq items n, slots := sl } ∧
      R (.ok (.ret (Value.ref s.heap.objs.size))) { s with heap := s.heap.push { cls := Value.type "tuple", data := Data.seq #[] }, toks := s.toks }) :=
  .of_wp fun prog w A R s h => by
    obtain ⟨hp, g, d, tk, os⟩ := s
    obtain ⟨hl, h⟩ := h
    have f1 := AutoSeq1.idx_int
    wp_walk using wpAny_loadPart' hl
    repeat (first
      | (refine wpAny_ite_false (decide_eq_false (by rw [c0]; exact Bool.false_ne_true)) ?_; wp_walk using wpAny_loadPart' hl)
      | (refine wpAny_ite_false (decide_eq_false (by rw [c1]; exact Bool.false_ne_true)) ?_; wp_walk using wpAny_loadPart' hl)
      | (refine wpAny_ite_true (decide_eq_true c2) ?_; wp_walk using wpAny_loadPart' hl))
    exact ⟨_, rfl, h⟩
/-- a tuple repeated at most once, or an empty one -/
def rRepS (K : PySem.W.Frag) : R2 := fun x y H Q => ∃ l k xs, x = .ref l ∧ y = .int k ∧ SqT K H l xs ∧ -9223372036854775808 ≤ k ∧ k < 9223372036854775808 ∧
  ((xs = [] ∨ k = 1) ∧ Q (.ref l) H ∨ k ≤ 0 ∧ xs ≠ [] ∧ ∀ p, H p = none → Q (.ref p) (upd H p (.tup [])))
theorem op_repS {X : Cx} : OpR X (binaryOp .Mult) (rRepS X.K) := by
  intro pins s σ H x y v u Q I rx ry h
  obtain ⟨l, k, xs, rfl, rfl, hT, h1, h2, q⟩ := h
  cases rx
  obtain ⟨t, rfl⟩ := ry
  obtain ⟨its, r, ⟨⟨cls, dd, data, sl⟩, ho, hc, n, hd⟩, hs⟩ := I.tuple hT
  simp only at hc hd
  subst hc hd
  have hle : its.length = xs.length := r.length.symm
  have c0 : (decide (k < -(2 ^ 63)) || decide (k ≥ 2 ^ 63)) = false := by
    rw [decide_eq_false (by omega), decide_eq_false (by omega)] <;> rfl
  refine wpAny_binaryOp_repeat_ref (T := "tuple") (U := "int") (by decide) ⟨_, ho, rfl⟩ (fun s' => typeIs_int s' k t) noFill_tuple_mul F.fills_int_mul F.slot_int_rmul repeat_tuple F.slot_int_index.lookup
    (call_meets F.slot_int_rmul (typeIs_int s k t) F.entry_int_rmul (F.args_int_rmul_2 _ _) (int_rmul_tuple k t l its.toArray n dd sl) ⟨ho, rfl, ⟨_, ho, rfl⟩, ?_⟩)
  have he : its.toArray.isEmpty = true ↔ xs = [] := by
    cases xs with
    | nil => simp at hle; subst hle; simp
    | cons a b => cases its with
      | nil => simp at hle
      | cons c d => simp
  by_cases hk : xs = [] ∨ k = 1
  · have c1 : (its.toArray.isEmpty || k == 1) = true := by
      rcases hk with hk | hk
      · rw [he.mpr hk]; rfl
      · subst hk; simp
    refine call_meets F.slot_tuple_mul ⟨_, ho, rfl⟩ F.entry_tuple_mul (F.args_tuple_mul_2 _ _) (tup_mul_same l its.toArray n dd sl k t c0 c1) ⟨ho, ?_⟩
    rcases q with ⟨_, q⟩ | ⟨k0, hx, _⟩
    · exact ⟨.ref l, H, I, rfl, q⟩
    · rcases hk with hk | hk
      · exact absurd hk hx
      · omega
  · rcases q with ⟨k0, _⟩ | ⟨k0, hx, q⟩
    · exact absurd k0 hk
    have hie : its.toArray.isEmpty = false := by
      cases z : its.toArray.isEmpty with
      | false => rfl
      | true => exact absurd (he.mp z) hx
    have c1 : (its.toArray.isEmpty || k == 1) = false := by
      rw [hie, Bool.false_or]
      exact beq_eq_false_iff_ne.mpr (by omega)
    have c2 : (decide (k ≤ 0) || its.toArray.isEmpty) = true := by
      rw [decide_eq_true k0]; rfl
    refine call_meets F.slot_tuple_mul ⟨_, ho, rfl⟩ F.entry_tuple_mul (F.args_tuple_mul_2 _ _) (tup_mul_none l its.toArray n dd sl k t c0 c1 c2) ⟨ho, ?_⟩
    refine ⟨.ref s.heap.objs.size, _, I.laid (t' := s.toks) (o := .tup []) (fun b ob q => Heap.get?_push_of_some _ q) (Nat.le_refl _) ?_, rfl, q _ (I.hok.fresh (Nat.le_refl _))⟩
    exact ⟨Nat.zero_le _, [], .nil, IsTup.new _ _⟩
end Pm
namespace Pm
open PySem PySem.Spec PyProof.Rows L2 PySem.W
/-! ### enumerate(t), t a tuple -/
theorem enum_new {v : Value} {o : Obj} {Hp0 : Heap → Prop} (B : Begins v o Hp0) :
    Meets (Builtin.«enumerate.__new__» ⟨[.type "enumerate", v], []⟩) (fun _ R s => Hp0 s.heap ∧
      R (.ok (.ret (.ref (s.heap.push o).objs.size))) { s with heap := (s.heap.push o).push { cls := .type "enumerate", data := .fields #[.none, .bool false, .ref s.heap.objs.size, rawInt 0, .none, .none] } }) :=
  .of_wp fun prog w A R s h => by
    obtain ⟨hp, gl, dd, tk, os⟩ := s
    obtain ⟨hb, h⟩ := h
    have sub := sub_enumerate
    have it1 : ∀ {A' : Around} {E' : Value → Shared → Prop} {Q' : Value → Shared → Prop}, Q' (.ref hp.objs.size) ⟨hp.push o, gl, dd, tk, os⟩ → wpAny (model prog w) A' (pyIter v) Q' E' ⟨hp, gl, dd, tk, os⟩ :=
      fun q => B.iter prog w _ _ ⟨hp, gl, dd, tk, os⟩ _ hb q
    wp_walk using it1
    refine wpAny_stack_any fun stk => wpAny_pure ?_
    split
    · rename_i cl _ _ _ _ _
      cases (cl == Value.type "enumerate")
      · wp_walk using it1
        exact ⟨_, rfl, h⟩
      · wp_walk using it1
        exact ⟨_, rfl, h⟩
    · wp_walk using it1
      exact ⟨_, rfl, h⟩
section
variable {prog : Program} {w : World} {A : Around} {E : Value → Shared → Prop} {s : Shared}
theorem enum_call {v : Value} {o : Obj} {Hp0 : Heap → Prop} {Q : Value → Shared → Prop} (B : Begins v o Hp0) (hb : Hp0 s.heap)
    (h : ∀ h2, IsEnum h2 (s.heap.objs.size + 1) s.heap.objs.size 0 .none → h2.get? s.heap.objs.size = some o → h2.objs.size = s.heap.objs.size + 2 →
      (∀ b u, s.heap.get? b = some u → h2.get? b = some u) → Q (.ref (s.heap.objs.size + 1)) { s with heap := h2 }) :
    wpAny (model prog w) A (call (.type "enumerate") [v]) Q E s := by
  refine callType_new F.called_enumerate (by decide) (F.typeCall_enumerate_1 _) (F.newCall_enumerate_1 _) (fun ob => F.args_object_init_2 ob _) F.entry_enumerate_new (enum_new B) ⟨hb, ?_⟩
  have sz : (s.heap.push o).objs.size = s.heap.objs.size + 1 := Heap.size_push ..
  show _ ∧ _
  rw [sz]
  have isE : IsEnum ((s.heap.push o).push { cls := .type "enumerate", data := .fields #[.none, .bool false, .ref s.heap.objs.size, rawInt 0, .none, .none] }) (s.heap.objs.size + 1) s.heap.objs.size 0 .none := by
    have q := Heap.get?_push_size (s.heap.push o) (o := { cls := .type "enumerate", data := .fields #[.none, .bool false, .ref s.heap.objs.size, rawInt 0, .none, .none] }) rfl
    rw [sz] at q
    exact q
  exact ⟨⟨_, isE, rfl⟩, h _ isE (Heap.get?_push_of_some _ (Heap.get?_push_size _ B.free)) (by rw [Heap.size_push, sz]) fun b u e => Heap.get?_push_of_some _ (Heap.get?_push_of_some _ e)⟩
end
section
variable {prog : Program} {w : World} {A : Around} {E : Value → Shared → Prop} {s : Shared}
theorem enum_endT {e it t : Addr} {i : Nat} {items : Array Value} {old : Value} {Q : Option Value → Shared → Prop} (hh : A.handled = none) (isE : IsEnum s.heap e it i old) (isI : s.heap.IsTupleIter it t i) (ht : s.heap.IsTuple t items) (hx : items[i]? = none)
    (hQ : ∀ h2, Heap.ExtBut it s.heap h2 → Q none { s with heap := h2 }) : wpAny (model prog w) A (pyNext (.ref e)) Q E s := by
  have isT : s.TypeIs (.ref e) "enumerate" := ⟨_, isE, rfl⟩
  unfold pyNext
  refine wpAny_bind (wpAny_attempt (wpAny_callSpecial?_slot (name := Str.ofString "__next__") isT F.slot_enumerate_next
    (wpAny_call_entry F.slot_enumerate_next isT F.entry_enumerate_next ?_ (F.args_enumerate_next_1 _))))
  show wpAny _ _ (field (.ref e) 2 >>= _) _ _ _
  refine wpAny_bind (wpAny_field isE rfl (x := .ref it) rfl ?_)
  refine wpAny_bind (wpAny_nextOf_tuple_end hh isI ht hx fun h2 x ext hx2 => ?_)
  obtain ⟨ob, ho, hc⟩ := hx2
  refine wpAny_bind (wpAny_isInstance (T := "StopIteration") (b := true) ⟨ob, ho, hc⟩ isSubtype_stop ?_)
  exact wpAny_pure (hQ _ ext)
end
/-- the tuple at a as it stands, each item in a new pair -/
def Iet (K : PySem.W.Frag) (a : Addr) : It :=
  ⟨fun i H => ∃ (xs : List V) (x : V), SqT K H a xs ∧ xs[i]? = some x, fun i H v H' => ∃ T x, v = .ref T ∧ H T = none ∧ H' = upd H T (.tup [.int (i : Nat), x]) ∧ ∀ xs, SqT K H a xs → xs[i]? = some x, fun i H => ∃ xs : List V, SqT K H a xs ∧ xs.length ≤ i⟩
theorem turn_et {P : Program} {w : World} {K : PySem.W.Frag} {elts : List Expr} {kk : Nat} {tpos : Pos} (a e it : Addr) :
    Turn P w K (.Tuple elts kk tpos) (Iet K a) [e, it] e (fun i h => (∃ old, IsEnum h e it ((i : Nat) : Int) old) ∧ h.IsTupleIter it a i ∧ e ≠ it) where
  mem := by simp
  obj := fun i h st b hb => by
    obtain ⟨⟨old, he⟩, ⟨o, ho, hc, hd⟩, _⟩ := st
    rcases (show b = e ∨ b = it by simpa using hb) with rfl | rfl
    · exact ⟨_, he, fun v q => nomatch q⟩
    · exact ⟨o, ho, fun v q => by rw [hd] at q; cases q⟩
  keep := fun i h h' st k => by
    obtain ⟨⟨old, he⟩, hi, hne⟩ := st
    exact ⟨⟨old, k e (by simp) _ he⟩, hi.at fun o q => k it (by simp) o q, hne⟩
  item := by
    intro X hP hw hK hc i pins s σ H E I fr st go
    subst hP hw hK
    obtain ⟨⟨old, isE⟩, isI, hne⟩ := st
    obtain ⟨xs, x, sq, hx⟩ := go
    obtain ⟨us, rv, tup, hz⟩ := I.tuple sq
    obtain ⟨u, hu, ru⟩ := rv.get hx
    have le : e < s.heap.objs.size := Heap.lt_size isE
    have li : it < s.heap.objs.size := by obtain ⟨_, q, _⟩ := isI; exact Heap.lt_size q
    have hai : a ≠ it := by
      intro q
      subst q
      obtain ⟨o1, e1, c1, _⟩ := isI
      obtain ⟨o2, e2, c2, _⟩ := tup
      rw [e1] at e2
      cases e2
      rw [c1] at c2
      simp at c2
    have hea : e ≠ a := by
      intro q
      subst q
      obtain ⟨o2, e2, c2, _⟩ := tup
      rw [show s.heap.get? e = some _ from isE] at e2
      cases e2
      simp at c2
    have hlt : i < us.toArray.size := by
      obtain ⟨q, _⟩ := List.getElem?_eq_some_iff.mp hu
      simpa using q
    refine wpAny_pyNext_enum_itemD (Draws.tuple (A := X.A.in1) (show X.A.in1.handled = none from I.ok.hd hc) it a hai us.toArray) isE ⟨isI, tup⟩ hlt hne (by simp; exact ⟨hne, hea⟩) fun y h1 tk hy ho isI' hT hsz hk => ?_
    have hy : us[i]? = some y := by simpa using hy
    rw [hu] at hy
    cases hy
    refine ⟨_, rfl, wpAny_letOwnedTupleGo_enum (s := { s with heap := h1, toks := tk + 1 }) ho fun h2 he2 sb => ?_⟩
    have hT2 : h2.get? s.heap.objs.size = some { cls := .type "tuple", data := .seq #[.int i tk, u] } := (sb.2 _ (Nat.ne_of_gt le)).trans hT
    have new : ObjOk X.prog X.w (upd H s.heap.objs.size (.tup [.int (i : Nat), x])) h2 s.heap.objs.size (.tup [.int (i : Nat), x]) :=
      ⟨by show 2 ≤ sizeLine; decide, [.int i tk, u], .cons ⟨_, rfl⟩ (.cons ru .nil), ⟨_, hT2, rfl, _, rfl⟩⟩
    have I1 : Inv X pins σ (upd H s.heap.objs.size (.tup [.int (i : Nat), x])) { s with heap := h2, toks := tk + 1 } :=
      I.turnedNew (ch := [e, it]) (fun b ob hb q => (sb.2 b (fun z => hb (by simp [z]))).trans (hk b ob (fun z => hb (by simp [z])) (fun z => hb (by simp [z])) q)) fr (Nat.le_refl _) new
    refine ⟨.ref s.heap.objs.size, _, I1, rfl, ⟨_, x, rfl, I.hok.fresh (Nat.le_refl _), rfl, fun ys hy => by rw [I.tuple_inj hy sq]; exact hx⟩, ⟨⟨u, ?_⟩, isI'.1.at fun o q => (sb.2 it (Ne.symm hne)).trans q, hne⟩, fun b hb => ?_⟩
    · rw [show ((i + 1 : Nat) : Int) = (i : Int) + 1 by omega]
      exact he2
    · have lb : b < s.heap.objs.size := by
        rcases (show b = e ∨ b = it by simpa using hb) with rfl | rfl
        · exact le
        · exact li
      rw [upd_ne (Nat.ne_of_lt lb)]
      exact (fr b hb).1
  done := by
    intro X hP hw hK hc i pins s σ H E I fr st go
    subst hP hw hK
    obtain ⟨⟨old, isE⟩, isI, hne⟩ := st
    obtain ⟨xs, sq, hx⟩ := go
    obtain ⟨us, rv, tup, hz⟩ := I.tuple sq
    obtain ⟨f0, f1, f2, f3, f4, f5⟩ := fr it (by simp)
    have hl := rv.length
    have hai : a ≠ it := by
      intro q
      subst q
      obtain ⟨o1, e1, c1, _⟩ := isI
      obtain ⟨o2, e2, c2, _⟩ := tup
      rw [e1] at e2
      cases e2
      rw [c1] at c2
      simp at c2
    exact enum_endT (I.ok.hd hc) isE isI tup (by simp; omega) fun h' eb => ⟨rfl, I.turned (t' := s.toks) (fun b o hb q => eb b o hb q) f0 f1 f3 f4 f5⟩
  self := fun A i s Q E st h => by
    obtain ⟨⟨_, he⟩, _⟩ := st
    exact wpAny_pyIter_enum he h
section
variable {X : Cx}
def iEn2 (K : PySem.W.Frag) (ta : TA) : TI := fun σ H R => ta σ H fun vs H1 => ∃ a xs, vs = [.ref a] ∧ SqT K H1 a xs ∧ R (Iet K a) H1
theorem pi_et {e : Expr} {ta : TA} {p pos tpos : Pos} {elts : List Expr} {kk : Nat} (hg : Gl X "enumerate") (hm : X.mg "enumerate" = none) (ha : PA X [e] ta) (hs : starEach [e] X.env = [(false, eval e X.env)]) :
    PI X (.Tuple elts kk tpos) (.Call (.Name "enumerate" p) [e] [] pos) (iEn2 X.K ta) := by
  refine ⟨fun pins s σ H R I h => ?_⟩
  refine Call_ (ld_blt I hg hm boot_enumerate (PyProof.Rows.callWith_type1 (thn (ha.run pos pins s σ H _ I h) fun us s1 ⟨vs, H1, I1, r1, q1⟩ => ?_) hs rfl))
  obtain ⟨a, xs, rfl, sq, q⟩ := q1
  cases r1 with
  | cons r rr =>
    cases rr
    cases r
    obtain ⟨us, rv, tup, hz⟩ := I1.tuple sq
    refine enum_call (begins_tuple a us.toArray) tup fun h2 isE hit hsz hk => wpAny_pyIter_enum isE ?_
    have I2 : Inv X pins σ H1 { s1 with heap := h2 } := I1.kept (t' := s1.toks) hk
    refine ⟨s1.heap.objs.size + 1, [s1.heap.objs.size + 1, s1.heap.objs.size], _, _, H1, rfl, I2, turn_et a (s1.heap.objs.size + 1) s1.heap.objs.size, ⟨⟨.none, isE⟩, ⟨_, hit, rfl, rfl⟩, Nat.succ_ne_self _⟩, fun b hb => ?_, q⟩
    have le : s1.heap.objs.size ≤ b := by
      rcases (show b = s1.heap.objs.size + 1 ∨ b = s1.heap.objs.size by simpa using hb) with rfl | rfl
      · exact Nat.le_add_right _ _
      · exact Nat.le_refl _
    exact I1.fpOk le (I1.hok.fresh le)
end
end Pm
namespace Pm
open PySem PySem.Spec PyProof.Rows L2 HT
/-! ### t[::-1], t a tuple -/
section
variable {prog : Program} {w : World} {A : Around} {E : Value → Shared → Prop} {s : Shared}
theorem adj_rev (n : Nat) : Builtin.Slice.sliceAdjust none none (-1) (n : Int) = ((n : Int) - 1, -1) := by
  unfold Builtin.Slice.sliceAdjust
  simp
theorem plc_rev (n : Nat) : Builtin.Slice.slicePlaces ((n : Int) - 1) (-1) (-1) = n := by
  unfold Builtin.Slice.slicePlaces
  simp only [show ¬ ((-1 : Int) > 0) by decide, if_false]
  by_cases h : (n : Int) - 1 > -1
  · rw [if_pos h, show (- -1 : Int) = 1 by decide, Int.ediv_one]; omega
  · rw [if_neg h]; omega
theorem fm_same {α β : Type} {f g : α → Option β} : ∀ l : List α, (∀ x ∈ l, f x = g x) → l.filterMap f = l.filterMap g
  | [], _ => rfl
  | x :: l, h => by
    rw [List.filterMap_cons, List.filterMap_cons, h x List.mem_cons_self, fm_same l fun y hy => h y (List.mem_cons_of_mem _ hy)]
theorem pick_rev (xs : Array Value) : ((List.range xs.size).filterMap fun (k : Nat) => xs[((xs.size : Int) - 1 + (k : Int) * (-1)).toNat]?).toArray = xs.toList.reverse.toArray := by
  have e : (fun (k : Nat) => xs[((xs.size : Int) - 1 + (k : Int) * (-1)).toNat]?) = fun k : Nat => xs[((xs.size : Int) - 1 + (k : Int) * (-1)).toNat]? := rfl
  have key : ∀ k, k < xs.size → ((xs.size : Int) - 1 + (k : Int) * (-1)).toNat = xs.size - 1 - k := fun k hk => by omega
  have h1 : ((List.range xs.size).filterMap fun (k : Nat) => xs[((xs.size : Int) - 1 + (k : Int) * (-1)).toNat]?) = (((List.range xs.size).map fun k => xs.size - 1 - k).filterMap (xs[·]?)) := by
    rw [List.filterMap_map]
    refine fm_same _ fun k hk => ?_
    rw [key k (List.mem_range.mp hk)]
    rfl
  rw [h1, PySem.W.krv_range, List.filterMap_reverse, PySem.W.krv_all]
theorem app_rev {sl : Addr} {vl vu vs : Value} {n : Nat} {Q : Int × Int × Nat → Shared → Prop} (hs : s.heap.IsSliceOf sl vl vu vs) (pl : IsPart vl none) (pu : IsPart vu none) (ps : IsPart vs (some (-1)))
    (h : Q ((n : Int) - 1, -1, n) s) : wpAny (model prog w) A (Builtin.Slice.sliceApplied (.ref sl) (pure (n : Int))) Q E s := by
  obtain ⟨ob, ho, hc, hd⟩ := id hs
  unfold Builtin.Slice.sliceApplied Builtin.Slice.sliceFields
  refine wpAny_bind (wpAny_bind (wpAny_field ho hd (x := vl) rfl (wpAny_bind (wpAny_field ho hd (x := vu) rfl (wpAny_bind (wpAny_field ho hd (x := vs) rfl (wpAny_pure ?_)))))))
  refine wpAny_bind (slicePart_ ps ?_)
  show wpAny _ _ (if ((-1 : Int) == 0) = true then _ else _) _ _ s
  rw [if_neg (by decide)]
  refine wpAny_bind (slicePart_ pl (wpAny_bind (slicePart_ pu (wpAny_bind (wpAny_pure ?_)))))
  show wpAny _ _ (match Builtin.Slice.sliceAdjust none none (-1) (n : Int) with | (lo, hi) => pure (lo, (-1 : Int), Builtin.Slice.slicePlaces lo hi (-1))) _ _ s
  rw [adj_rev n]
  show wpAny _ _ (pure ((n : Int) - 1, (-1 : Int), Builtin.Slice.slicePlaces ((n : Int) - 1) (-1) (-1))) _ _ s
  rw [plc_rev]
  exact wpAny_pure h
theorem item_rev {t sl : Addr} {items : Array Value} {vl vu vs : Value} {Q : Value → Shared → Prop} (ht : IsTup s.heap t items) (hs : s.heap.IsSliceOf sl vl vu vs) (pl : IsPart vl none) (pu : IsPart vu none) (ps : IsPart vs (some (-1)))
    (h : Q (.ref s.heap.objs.size) { s with heap := s.heap.push { cls := .type "tuple", data := .seq items.toList.reverse.toArray } }) (hz : items.size ≤ sizeLine) : wpAny (model prog w) A (getItem (.ref t) (.ref sl)) Q E s := by
  have ok : sizeOk (.seq items.toList.reverse.toArray) := by
    show items.toList.reverse.toArray.size ≤ sizeLine
    rw [List.size_toArray, List.length_reverse, Array.length_toList]
    exact hz
  obtain ⟨ob, ho, hc, hd⟩ := id hs
  have hT : s.TypeIs (.ref sl) "slice" := ⟨ob, ho, hc⟩
  unfold getItem
  try with_reducible refine wpAny_holding ?_
  first | refine wpAny_bind (wpAny_pure ?_) | skip
  refine wpAny_bind (wpAny_sequenceKey ht.typeIs (by decide) ?_)
  refine wpAny_bind (wpAny_callSpecial?_slot (name := Str.ofString "__getitem__") ht.typeIs PyProof.Rows.slot_tuple_getitem
    (wpAny_call_entry PyProof.Rows.slot_tuple_getitem ht.typeIs entry_tuple_getitem ?_ (args_tuple_getitem _ _)))
  show wpAny _ _ (Builtin.Tuple.tupleItemsOf (.ref t) >>= _) _ _ s
  refine wpAny_bind (tupleItemsOf_ ht ?_)
  refine wpAny_bind (wpAny_typeOf hT ?_)
  rw [if_pos (by decide)]
  refine wpAny_bind (app_rev hs pl pu ps ?_)
  have no : ¬ (((items.size : Int) - 1 == 0 && (-1 : Int) == 1 && items.size == items.size) = true) := by simp
  show wpAny _ _ (if ((items.size : Int) - 1 == 0 && (-1 : Int) == 1 && items.size == items.size) = true then _ else _) _ _ s
  rw [if_neg no, pick_rev]
  first
    | exact wpAny_bind (m := Builtin.Tuple.tupleExact _) (wpAny_newObj_type (wpAny_pure ⟨_, rfl, wpAny_pure h⟩) ok)
    | exact wpAny_bind (m := Builtin.Tuple.tupleExact _) (wpAny_newObj_type (wpAny_bind (wpAny_pure (wpAny_pure ⟨_, rfl, wpAny_pure h⟩))) ok)
    | exact wpAny_bind (wpAny_bind (m := Builtin.Tuple.tupleExact _) (wpAny_newObj_type (wpAny_pure (wpAny_pure ⟨_, rfl, wpAny_pure h⟩)) ok))
    | exact wpAny_bind (wpAny_bind (m := Builtin.Tuple.tupleExact _) (wpAny_newObj_type (wpAny_pure ⟨_, rfl, wpAny_pure h⟩) ok))
end
/-- x[::-1], x a list or a tuple -/
def tRevX (K : PySem.W.Frag) (te : TE) : TE := fun σ H Q => te σ H fun x H1 => ∃ a xs, x = .ref a ∧ ((SqL K H1 a xs ∧ ∀ p, H1 p = none → Q (.ref p) (upd H1 p (.lst xs.reverse))) ∨ (SqT K H1 a xs ∧ ∀ p, H1 p = none → Q (.ref p) (upd H1 p (.tup xs.reverse))))
theorem pe_revX {X : Cx} {e : Expr} {te : TE} {k : Nat} {p1 p2 p3 pos : Pos} (he : PE X e te) : PE X (.Subscript e (.Slice none none (some (.UnaryOp .USub (.Constant (.int 1) k p1) p2)) p3) pos) (tRevX X.K te) := by
  refine ⟨fun pins s σ H Q I h => ?_⟩
  refine Subscript_ (thn (he.run pins s σ H _ I h) fun v s1 ⟨x, H1, I1, r1, q1⟩ => ?_)
  obtain ⟨a, xs, rfl, q⟩ := q1
  cases r1
  have st : PO X (some (.UnaryOp .USub (.Constant (.int 1) k p1) p2)) (tPart (tUn (rU fun i => .int (-i)) (tC (.int 1)))) := po_some (pe_un un_neg pe_int)
  refine wpAny_Slice (thn (po_none.run pins s1 σ H1 (fun o H2 => o = none ∧ H2 = H1) I1 ⟨rfl, rfl⟩) fun vl s2 ⟨l, H2, I2, pl, el, e2⟩ => ?_)
  obtain rfl := el
  obtain rfl := e2
  refine thn (po_none.run pins s2 σ H2 (fun o H3 => o = none ∧ H3 = H2) I2 ⟨rfl, rfl⟩) fun vu s3 ⟨u, H3, I3, pu, eu, e3⟩ => ?_
  obtain rfl := eu
  obtain rfl := e3
  refine thn (st.run pins s3 σ H3 (fun o H4 => o = some (-1) ∧ H4 = H3) I3 ⟨1, rfl, -1, rfl, rfl, rfl⟩) fun vs s4 ⟨o, H4, I4, ps, eo, e4⟩ => ?_
  obtain rfl := eo
  obtain rfl := e4
  have I5 : Inv X pins σ H4 { s4 with heap := s4.heap.push { cls := .type "slice", data := .fields #[vl, vu, vs] } } := I4.kept (t' := s4.toks) fun b ob q => Heap.get?_push_of_some _ q
  show wpAny (model X.prog X.w) X.A (subscriptTail e (.Slice none none (some (.UnaryOp .USub (.Constant (.int 1) k p1) p2)) p3) (.ref a) (.ref s4.heap.objs.size)) (EP X pins σ Q) X.xe { s4 with heap := s4.heap.push { cls := .type "slice", data := .fields #[vl, vu, vs] } }
  rcases q with ⟨hx, q⟩ | ⟨hx, q⟩
  · obtain ⟨its, r, ht, hz⟩ := I5.list hx
    have hl := r.length
    refine tail_any (ops := [.ref a, .ref s4.heap.objs.size]) ht.isList.typeIs (PySem.slot_list_getitem.lookup) ?_ (by with_unfolding_all rfl)
    refine wpAny_getItem_list_slice ht.isList (Heap.IsSliceOf.new _ vl vu vs) pl pu ps (by decide) ?_ (by rw [List.size_toArray]; omega)
    rw [PySem.W.krv_pick]
    refine ⟨.ref _, _, I5.laid (t' := s4.toks) (o := .lst xs.reverse) (fun b ob q => Heap.get?_push_of_some _ q) (Nat.le_refl _) ?_, rfl, q _ (I5.hok.fresh (Nat.le_refl _))⟩
    exact ⟨by rw [List.length_reverse]; exact hz, _, 0, r.reverse, Heap.get?_push_size _ rfl⟩
  · obtain ⟨its, r, ht, hz⟩ := I5.tuple hx
    have hl := r.length
    refine tail_any (ops := [.ref a, .ref s4.heap.objs.size]) ht.typeIs (PyProof.Rows.slot_tuple_getitem.lookup) ?_ (by with_unfolding_all rfl)
    refine item_rev ht (Heap.IsSliceOf.new _ vl vu vs) pl pu ps ?_ (by rw [List.size_toArray]; omega)
    refine ⟨.ref _, _, I5.laid (t' := s4.toks) (o := .tup xs.reverse) (fun b ob q => Heap.get?_push_of_some _ q) (Nat.le_refl _) ?_, rfl, q _ (I5.hok.fresh (Nat.le_refl _))⟩
    exact ⟨by rw [List.length_reverse]; exact hz, _, r.reverse, IsTup.new _ _⟩
end Pm
/-! A small evaluator with pure values for the part of Python that the program is written in. -/
namespace Pm
open PySem
abbrev D := PyData
/-- 2 ^ 24 -/
abbrev SL : Nat := 16777216
/-- what a name holds: nothing, a value that nobody changes any more, a list (a dict) of the frame's own, a list under a running for, the source of draws -/
inductive SV where
  | un | v (d : D) | own (xs : List D) | lock (xs : List D) | dk (kvs : List (L2.Key × D)) | dt (kvs : List (List L2.Key × D)) | src
/-- what an expression gives: a value, a new list, a list of the frame's own as it stands, .. -/
inductive R where
  | v (d : D) | fr (xs : List D) | bo (xs : List D) | src
  | it (xs : List D) | st (xs : List D)
  | nk (kvs : List (L2.Key × D)) | nt (kvs : List (List L2.Key × D)) | bk (kvs : List (L2.Key × D)) | bt (kvs : List (List L2.Key × D))
structure SS where
  cells : List Int
  left : Int
  mixed : Int
  turn : Int
/-- the source's numbers -/
inductive SK where | left | mixed | turn
  deriving DecidableEq
def SS.get (s : SS) : SK → Int
  | .left => s.left
  | .mixed => s.mixed
  | .turn => s.turn
def SS.put (s : SS) : SK → Int → Option SS
  | .left, i => if 0 ≤ i then some { s with left := i } else none
  | .mixed, i => some { s with mixed := i }
  | .turn, i => if 0 ≤ i then some { s with turn := i } else none
inductive AV where
  | v (d : D) | src
abbrev Fn := List AV → SS → Option (R × SS)
def AV.sv : AV → SV
  | .v d => .v d
  | .src => .src
inductive BOp where | add | sub | mul | fdiv | mod | pow
  deriving DecidableEq
inductive COp where | eq | ne | lt | le | gt | ge | isin | notin | isn | notn | isb (b : Bool) | notb (b : Bool)
  deriving DecidableEq
inductive Bi where | len | int | abs | max2 | min2 | max1 | min1 | sum | all | any | list | tuple | sorted | repr | isint | isbool | istuple | isstr | islist | comb | fact | dict
  deriving DecidableEq
inductive Me where | index | count | get1 | get2 | items | keys
  deriving DecidableEq
inductive TGt where
  | one (i : Nat) | tup (ts : List TGt)
inductive CE where
  | lit (d : D)
  | loc (i : Nat)
  | glo (x : Str) (d : D)
  | bin (o : BOp) (a b : CE)
  | neg (a : CE)
  | not (a : CE)
  | and (a b : CE)
  | or (a b : CE)
  | cmp (o : COp) (a b : CE)
  | cmp2 (o p : COp) (a b c : CE)
  | ife (c a b : CE)
  | tup (es : List CE)
  | lst (es : List CE)
  | star (e : CE)
  | lc (elt : CE) (tg : TGt) (it : CE) (cond : List CE)
  | rg1 (a : CE) | rg2 (a b : CE) | rg3 (a b c : CE)
  | enm (a : CE) | zip (a b : CE)
  | idx (a i : CE)
  | sli (a lo hi : CE)
  | nop
  | rev (a : CE)
  | bi (f : Bi) (es : List CE)
  | met (m : Me) (o : CE) (es : List CE)
  | call (x : Str) (f : Fn) (es : List CE)
  | newk | newt
  | dhas (b : Bool) (k : CE) (i : Nat)
  | dget (i : Nat) (k : CE)
  | dget2 (i : Nat) (k d : CE)
  | sget (k : SK) (i : Nat)
  | slen (i : Nat)
inductive CS where
  | set (i : Nat) (e : CE)
  | unp (t : TGt) (e : CE)
  | par (js : List Nat) (es : List CE)
  | sto (i : Nat) (k e : CE)
  | sto2 (i : Nat) (k : CE) (j : Nat) (l : CE) (e f : CE)
  | aug (i : Nat) (o : BOp) (e : CE)
  | augs (i : Nat) (k : CE) (o : BOp) (e : CE)
  | app (i : Nat) (e : CE)
  | ext (i : Nat) (e : CE)
  | popS (j i : Nat) (k : CE)
  | exp (e : CE)
  | ite (c : CE) (a b : List CS)
  | forr (t : TGt) (it : CE) (body : List CS)
  | whl (c : CE) (body : List CS)
  | ret (e : CE)
  | retn
  | frz (i : Nat)
  | kill (js : List Nat)
  | never
  | dput (i : Nat) (k e : CE)
  | sput (k : SK) (i : Nat) (e : CE)
  | spop (i : Nat)
  | appPop (i j : Nat) (e : CE)
  | rmix (r s lap : Nat) (x : Str) (f : Fn)
/-! ### operations on values -/
def rd : R → Option D
  | .v d => some d
  | .fr xs => some (.list xs)
  | .bo xs => some (.list xs)
  | _ => none
def esc : R → Option D
  | .v d => some d
  | .fr xs => some (.list xs)
  | _ => none
def addD : D → D → Option R
  | .int i, .int j => some (.v (.int (i + j)))
  | .tuple a, .tuple b => if a.length + b.length ≤ SL then some (.v (.tuple (a ++ b))) else none
  | .list a, .list b => if a.length + b.length ≤ SL then some (.fr (a ++ b)) else none
  | .str a, .str b => if a.length + b.length ≤ SL then some (.v (.str (a ++ b))) else none
  | _, _ => none
def subD : D → D → Option R
  | .int i, .int j => some (.v (.int (i - j)))
  | _, _ => none
def mulD : D → D → Option R
  | .int i, .int j => if i.natAbs < 18446744073709551616 ∨ j.natAbs < 18446744073709551616 ∨ i.natAbs.log2 + j.natAbs.log2 < 1000000 then some (.v (.int (i * j))) else none
  | .list xs, .int k => if -9223372036854775808 ≤ k ∧ k < 9223372036854775808 ∧ xs.length * k.toNat ≤ SL then some (.fr (List.replicate k.toNat xs).flatten) else none
  | .tuple xs, .int k => if (-9223372036854775808 ≤ k ∧ k < 9223372036854775808) ∧ (k ≤ 1 ∨ xs.length = 0 ∨ (k ≤ 1000 ∧ xs.length ≤ 1000)) then some (.v (.tuple (List.replicate k.toNat xs).flatten)) else none
  | _, _ => none
def fdivD : D → D → Option R
  | .int i, .int j => if 0 < j ∧ j.natAbs.log2 < 9000 then some (.v (.int (i / j))) else none
  | _, _ => none
def modD : D → D → Option R
  | .int i, .int j => if 0 < j then some (.v (.int (i % j))) else none
  | _, _ => none
def powD : D → D → Option R
  | .int i, .int j => if 0 ≤ j ∧ j ≤ 1000000 ∧ i.natAbs < 18446744073709551616 then some (.v (.int (i ^ j.toNat))) else none
  | _, _ => none
def binD : BOp → D → D → Option R
  | .add => addD
  | .sub => subD
  | .mul => mulD
  | .fdiv => fdivD
  | .mod => modD
  | .pow => powD
def eqD (a b : D) : Option Bool :=
  match a, b with
  | .int i, .int j => some (i == j)
  | .str x, .str y => some (x == y)
  | a, b => if SeqAt.shaped a = true ∧ SeqAt.shaped b = true then some (PyData.eqv a b) else none
def isNone : D → Bool
  | .none => true
  | _ => false
def flatD : D → Bool
  | .none | .bool _ | .int _ | .str _ => true
  | _ => false
def inD (a b : D) : Option Bool :=
  match b with
  | .list xs => if SeqAt.shaped a = true ∧ SeqAt.shaped (.list xs) = true then some (xs.any fun z => PyData.eqv z a) else none
  | .tuple xs => if flatD a = true ∧ xs.all flatD = true then some (xs.any fun z => PyData.eqv z a) else none
  | _ => none
def ordD (f : Int → Int → Bool) : D → D → Option Bool
  | .int i, .int j => some (f i j)
  | _, _ => none
def cmpD : COp → D → D → Option Bool
  | .eq, a, b => eqD a b
  | .ne, a, b => (eqD a b).map (!·)
  | .lt, a, b => ordD (fun i j => decide (i < j)) a b
  | .le, a, b => ordD (fun i j => decide (i ≤ j)) a b
  | .gt, a, b => ordD (fun i j => decide (j < i)) a b
  | .ge, a, b => ordD (fun i j => decide (j ≤ i)) a b
  | .isin, a, b => inD a b
  | .notin, a, b => (inD a b).map (!·)
  | .isn, a, _ => some (isNone a)
  | .notn, a, _ => some (!isNone a)
  | .isb c, .bool b, _ => some (b == c)
  | .notb c, .bool b, _ => some (!(b == c))
  | .isb _, _, _ => none
  | .notb _, _, _ => none
/-- the place of an index of any sign -/
abbrev ixN := L2.ixN
def idxD : D → D → Option D
  | .list xs, .int i => (ixN xs.length i).bind fun j => xs[j]?
  | .tuple xs, .int i => (ixN xs.length i).bind fun j => xs[j]?
  | _, _ => none
def sIx (n d : Nat) : D → Option Nat
  | .none => some d
  | .int v => some (if v < 0 then (v + (n : Int)).toNat else min v.toNat n)
  | _ => none
def cut (xs : List D) (lo hi : D) : Option (List D) :=
  match sIx xs.length 0 lo, sIx xs.length xs.length hi with
  | some a, some b => some ((xs.drop a).take (b - a))
  | _, _ => none
def sliD (x lo hi : D) : Option R :=
  match x with
  | .list xs => (cut xs lo hi).map .fr
  | .tuple xs => (cut xs lo hi).map fun ys => .v (.tuple ys)
  | _ => none
def intsL : List D → Option (List Int)
  | [] => some []
  | .int i :: r => (intsL r).map (i :: ·)
  | _ :: _ => none
def boolsL : List D → Option (List Bool)
  | [] => some []
  | .bool i :: r => (boolsL r).map (i :: ·)
  | _ :: _ => none
def insI (x : Int) : List Int → List Int
  | [] => [x]
  | y :: r => if x ≤ y then x :: y :: r else y :: insI x r
def sortI : List Int → List Int
  | [] => []
  | x :: r => insI x (sortI r)
mutual
/-- x < y, for data that are alike -/
def ltD : D → D → Bool
  | .bool a, .bool b => !a && b
  | .int i, .int j => decide (i < j)
  | .str x, .str y => decide (x.cps.toList < y.cps.toList)
  | .list xs, .list ys => ltsD xs ys
  | .tuple xs, .tuple ys => ltsD xs ys
  | _, _ => false
def ltsD : List D → List D → Bool
  | [], [] => false
  | [], _ :: _ => true
  | _ :: _, [] => false
  | x :: xs, y :: ys => if PyData.eqv x y then ltsD xs ys else ltD x y
end
def insD (x : D) : List D → List D
  | [] => [x]
  | y :: r => if ltD y x then y :: insD x r else x :: y :: r
def sortD : List D → List D
  | [] => []
  | x :: r => insD x (sortD r)
def neTup : D → Bool
  | .tuple (_ :: _) => true
  | _ => false
def noTup : D → Bool
  | .tuple _ => false
  | .none => false
  | _ => true
def intTup : D → Bool
  | .tuple (x :: xs) => (intsL (x :: xs)).isSome
  | _ => false
/-- they can be sorted -/
def sortable (xs : List D) : Bool := (intsL xs).isSome || xs.all intTup || ((xs.all fun x => xs.all fun y => PySem.W.alike x y) && (xs.all neTup || xs.all noTup) && xs.all fun x => decide (x.depth ≤ 64))
def maxI : Int → List Int → Int
  | m, [] => m
  | m, x :: r => maxI (if m < x then x else m) r
def minI : Int → List Int → Int
  | m, [] => m
  | m, x :: r => minI (if x < m then x else m) r
def seqOf : D → Option (List D)
  | .list xs => some xs
  | .tuple xs => some xs
  | _ => none
/-- no list, no dict within -/
def lf : D → Bool
  | .list _ => false
  | .dict _ => false
  | .tuple xs => lfs xs
  | _ => true
where lfs : List D → Bool
  | [] => true
  | x :: r => lf x && lfs r
def R.lf : R → Bool
  | .v d => Pm.lf d
  | .fr xs => lf.lfs xs
  | .src => true
  | _ => false
def fact : Nat → Nat
  | 0 => 1
  | n + 1 => (n + 1) * fact n
/-- how many lots of k out of n -/
def comb : Nat → Nat → Nat
  | _, 0 => 1
  | 0, _ + 1 => 0
  | n + 1, k + 1 => comb n k + comb n (k + 1)
def lenD : List D → Option R
  | [.list xs] => some (.v (.int xs.length))
  | [.tuple xs] => some (.v (.int xs.length))
  | _ => none
def intD : List D → Option R
  | [.int i] => some (.v (.int i))
  | [.bool b] => some (.v (.int (if b then 1 else 0)))
  | _ => none
def absD : List D → Option R
  | [.int i] => some (.v (.int (if i < 0 then -i else i)))
  | _ => none
def max2D : List D → Option R
  | [.int i, .int j] => some (.v (.int (if j > i then j else i)))
  | _ => none
def min2D : List D → Option R
  | [.int i, .int j] => some (.v (.int (if j < i then j else i)))
  | _ => none
def max1D : List D → Option R
  | [.list xs] => match intsL xs with
    | some (m :: r) => some (.v (.int (maxI m r)))
    | _ => none
  | _ => none
def min1D : List D → Option R
  | [.list xs] => match intsL xs with
    | some (m :: r) => some (.v (.int (minI m r)))
    | _ => none
  | _ => none
def sumD : List D → Option R
  | [.list xs] => (intsL xs).map fun is => .v (.int is.sum)
  | _ => none
def allD : List D → Option R
  | [.list xs] => (boolsL xs).map fun bs => .v (.bool (bs.all id))
  | _ => none
def anyD : List D → Option R
  | [.list xs] => (boolsL xs).map fun bs => .v (.bool (bs.any id))
  | _ => none
def listD : List D → Option R
  | [x] => (seqOf x).map .fr
  | _ => none
def tupleD : List D → Option R
  | [x] => (seqOf x).map fun xs => .v (.tuple xs)
  | _ => none
def sortedD : List D → Option R
  | [x] => (seqOf x).bind fun xs => if sortable xs = true then some (.fr (sortD xs)) else none
  | _ => none
def reprD : List D → Option R
  | [x] => if x.showable = true ∧ x.shown.length ≤ SL ∧ x.depth ≤ 64 then some (.v (.str x.shown)) else none
  | _ => none
def tag : D → String
  | .none => "NoneType"
  | .bool _ => "bool"
  | .int _ => "int"
  | .str _ => "str"
  | .list _ => "list"
  | .tuple _ => "tuple"
  | .dict _ => "dict"
def isTs (a T : String) : Bool := a == T || (a == "bool" && T == "int")
def isT (T : String) (d : D) : Bool := isTs (tag d) T
def isTD (T : String) : List D → Option R
  | [x] => some (.v (.bool (isT T x)))
  | _ => none
def biD : Bi → List D → Option R
  | .len => lenD
  | .int => intD
  | .abs => absD
  | .max2 => max2D
  | .min2 => min2D
  | .max1 => max1D
  | .min1 => min1D
  | .sum => sumD
  | .all => allD
  | .any => anyD
  | .list => listD
  | .tuple => tupleD
  | .sorted => sortedD
  | .repr => reprD
  | .isint => isTD "int"
  | .isbool => isTD "bool"
  | .istuple => isTD "tuple"
  | .isstr => isTD "str"
  | .islist => isTD "list"
  | _ => fun _ => none
def findIx (p : D → Bool) : List D → Nat → Option Nat
  | [], _ => none
  | x :: r, i => if p x then some i else findIx p r (i + 1)
def meD : Me → D → List D → Option R
  | .index, .list xs, [y] => if SeqAt.shaped (.list xs) = true ∧ SeqAt.shaped y = true then (findIx (fun z => PyData.eqv z y) xs 0).map (fun (i : Nat) => R.v (.int i)) else none
  | .count, .list xs, [y] => if SeqAt.shaped (.list xs) = true ∧ SeqAt.shaped y = true then some (.v (.int (xs.countP fun z => PyData.eqv z y : Nat))) else none
  | _, _, _ => none
/-! ### dicts of ints and texts -/
def keyOf : D → Option L2.Key
  | .int i => some (.inl i)
  | .str x => some (.inr x)
  | _ => none
def kGet (kvs : List (L2.Key × D)) (k : L2.Key) : Option D := (kvs.find? fun p => decide (p.1 = k)).map (·.2)
def kPut (kvs : List (L2.Key × D)) (k : L2.Key) (d : D) : List (L2.Key × D) :=
  if (kvs.any fun p => decide (p.1 = k)) = true then kvs.map (fun p => if p.1 = k then (p.1, d) else p) else kvs ++ [(k, d)]
def rangeD (a b : Int) : List D := (List.range (b - a).toNat).map fun (i : Nat) => .int (a + i)
def enumD (xs : List D) : List D := (List.range xs.length).zipWith (fun (i : Nat) x => .tuple [.int i, x]) xs
def slR : SV → Option R
  | .v d => some (.v d)
  | .own xs => some (.bo xs)
  | .lock xs => some (.bo xs)
  | .src => some .src
  | .dk k => some (.bk k)
  | .dt k => some (.bt k)
  | .un => none
def getR (sl : List SV) (i : Nat) : Option R := sl[i]?.bind slR
def setS (sl : List SV) (i : Nat) (s : SV) : Option (List SV) := if i < sl.length then some (sl.set i s) else none
def killS : List Nat → List SV → List SV
  | [], sl => sl
  | j :: js, sl => (killS js sl).set j .un
mutual
def TGt.slots : TGt → List Nat
  | .one i => [i]
  | .tup ts => TGt.slotss ts
def TGt.slotss : List TGt → List Nat
  | [] => []
  | t :: ts => t.slots ++ TGt.slotss ts
end
mutual
def bindT : TGt → D → List SV → Option (List SV)
  | .one i, d, sl => setS sl i (.v d)
  | .tup ts, .tuple ds, sl => bindTs ts ds sl
  | .tup _, _, _ => none
def bindTs : List TGt → List D → List SV → Option (List SV)
  | [], [], sl => some sl
  | t :: ts, d :: ds, sl => (bindT t d sl).bind fun sl => bindTs ts ds sl
  | _, _, _ => none
end
/-- a comprehension's turns -/
def lcD (f : D → SS → Option (Option D × SS)) : List D → SS → Option (List D × SS)
  | [], ss => some ([], ss)
  | d :: ds, ss => match f d ss with
    | some (some y, ss) => (lcD f ds ss).map fun p => (y :: p.1, p.2)
    | some (none, ss) => lcD f ds ss
    | none => none
def asB : R → Option Bool
  | .v (.bool b) => some b
  | _ => none
def isBo : R → Bool
  | .bo _ => true
  | _ => false
def toA : R → Option AV
  | .v d => some (.v d)
  | .fr xs => some (.v (.list xs))
  | .bo xs => some (.v (.list xs))
  | .src => some .src
  | _ => none
def toAs : List R → Option (List AV)
  | [] => some []
  | r :: rs => (toA r).bind fun a => (toAs rs).map (a :: ·)
def rds : List R → Option (List D)
  | [] => some []
  | r :: rs => (rd r).bind fun a => (rds rs).map (a :: ·)
/-- what a def may hand back -/
def isOut : R → Bool
  | .v _ | .fr _ | .src => true
  | _ => false
def callD (f : Fn) (rs : List R) (ss : SS) : Option (R × SS) :=
  (toAs rs).bind fun as => (f as ss).bind fun p => if isOut p.1 = true ∧ (rs.any isBo = true → p.1.lf = true) then some p else none
abbrev O (α : Type) := Option (α × SS)
def O.f {α β : Type} (f : α → Option β) (x : O α) : O β := x.bind fun p => (f p.1).map fun d => (d, p.2)
/-- to be read at once -/
def toD (x : O R) : O D := x.f rd
/-- to be kept -/
def toE (x : O R) : O D := x.f esc
def toB (x : O R) : O Bool := x.f asB
def itR : R → Option (List D)
  | .it xs => some xs
  | r => (rd r).bind seqOf
def toI (x : O R) : O (List D) := x.f itR
def toDs (x : O (List R)) : O (List D) := x.f rds
def dispR : List R → Option (List D)
  | [] => some []
  | .st xs :: r => (dispR r).map (xs ++ ·)
  | x :: r => (esc x).bind fun d => (dispR r).map (d :: ·)
def toX (x : O (List R)) : O (List D) := (x.f dispR).bind fun p => if p.1.length ≤ SL then some p else none
def condR : List R → Option Bool
  | [] => some true
  | r :: _ => asB r
def toC (x : O (List R)) : O Bool := x.f condR
def rg1D : D → Option R
  | .int i => if -4611686018427387904 ≤ i ∧ i ≤ 16777216 then some (.it (rangeD 0 i)) else none
  | _ => none
def rg2D : D → D → Option R
  | .int i, .int j => if (-4611686018427387904 ≤ i ∧ i < 4611686018427387904 ∧ -4611686018427387904 ≤ j ∧ j < 4611686018427387904) ∧ j - i ≤ 16777216 then some (.it (rangeD i j)) else none
  | _, _ => none
def revD : D → Option R
  | .list xs => some (.fr xs.reverse)
  | .tuple xs => some (.v (.tuple xs.reverse))
  | _ => none
def negD : D → Option R
  | .int i => some (.v (.int (-i)))
  | _ => none
def enD : D → Option R
  | .list xs => some (.it (enumD xs))
  | .tuple xs => some (.it (enumD xs))
  | _ => none
def zipD : D → D → Option R
  | x, y => (seqOf x).bind fun xs => (seqOf y).map fun ys => .it (xs.zipWith (fun x y => .tuple [x, y]) ys)
def bl (b : Bool) : R := .v (.bool b)
def isNop : CE → Bool
  | .nop => true
  | _ => false
def rdInt (r : R) : Option D := match rd r with
  | some (.int i) => some (.int i)
  | _ => none
/-- a part of a slice: left out, or an int -/
def toP (c : CE) (x : O R) : O D := match isNop c with
  | true => x.f rd
  | false => x.f rdInt
/-- the dict at a slot, a key of it -/
def dkAt (sl : List SV) (i : Nat) : Option (List (L2.Key × D)) :=
  match sl[i]? with
  | some (.dk kvs) => some kvs
  | _ => none
def dhasD (b : Bool) (sl : List SV) (i : Nat) (k : D) : Option R := (dkAt sl i).bind fun kvs => (keyOf k).map fun k => bl ((kGet kvs k).isSome == b)
def dgetD (sl : List SV) (i : Nat) (k : D) : Option R := (dkAt sl i).bind fun kvs => (keyOf k).bind fun k => (kGet kvs k).map .v
def dget2D (sl : List SV) (i : Nat) (k d : D) : Option R := (dkAt sl i).bind fun kvs => (keyOf k).map fun k => .v ((kGet kvs k).getD d)
def dputD (sl : List SV) (i : Nat) (k d : D) : Option (List SV) := (dkAt sl i).bind fun kvs => (keyOf k).bind fun k => if kvs.length < SL then some (sl.set i (.dk (kPut kvs k d))) else none
def isSrc (sl : List SV) (i : Nat) : Bool :=
  match sl[i]? with
  | some .src => true
  | _ => false
mutual
def ev : CE → List SV → SS → O R
  | .lit d, _, ss => some (.v d, ss)
  | .glo _ d, _, ss => some (.v d, ss)
  | .loc i, sl, ss => (getR sl i).map fun r => (r, ss)
  | .bin o a b, sl, ss => (toD (ev a sl ss)).bind fun p => (toD (ev b sl p.2)).bind fun q => (binD o p.1 q.1).map fun r => (r, q.2)
  | .neg a, sl, ss => (toD (ev a sl ss)).f negD
  | .not a, sl, ss => (toB (ev a sl ss)).bind fun p => some (bl (!p.1), p.2)
  | .and a b, sl, ss => (toB (ev a sl ss)).bind fun p => if p.1 then (toB (ev b sl p.2)).bind fun q => some (bl q.1, q.2) else some (bl false, p.2)
  | .or a b, sl, ss => (toB (ev a sl ss)).bind fun p => if p.1 then some (bl true, p.2) else (toB (ev b sl p.2)).bind fun q => some (bl q.1, q.2)
  | .cmp o a b, sl, ss => (toD (ev a sl ss)).bind fun p => (toD (ev b sl p.2)).bind fun q => (cmpD o p.1 q.1).map fun r => (bl r, q.2)
  | .cmp2 o o' a b c, sl, ss => (toD (ev a sl ss)).bind fun p => (toD (ev b sl p.2)).bind fun q => (cmpD o p.1 q.1).bind fun r =>
      if r then (toD (ev c sl q.2)).bind fun t => (cmpD o' q.1 t.1).map fun r => (bl r, t.2) else some (bl false, q.2)
  | .ife c a b, sl, ss => (toB (ev c sl ss)).bind fun p => if p.1 then ev a sl p.2 else ev b sl p.2
  | .tup es, sl, ss => (toX (evs es sl ss)).bind fun p => some (.v (.tuple p.1), p.2)
  | .lst es, sl, ss => (toX (evs es sl ss)).bind fun p => some (.fr p.1, p.2)
  | .lc elt tg it cond, sl, ss => (toI (ev it sl ss)).bind fun p => (lcD (fun d ss => (bindT tg d (killS tg.slots sl)).bind fun sl' => (toC (evs cond sl' ss)).bind fun q =>
      if q.1 then (toE (ev elt sl' q.2)).bind fun t => some (some t.1, t.2) else some (none, q.2)) p.1 p.2).bind fun q => if p.1.length ≤ SL then some (.fr q.1, q.2) else none
  | .idx a i, sl, ss => (toD (ev a sl ss)).bind fun p => (toD (ev i sl p.2)).bind fun q => (idxD p.1 q.1).map fun d => (.v d, q.2)
  | .sli a lo hi, sl, ss => (toD (ev a sl ss)).bind fun p => (toP lo (ev lo sl p.2)).bind fun q => (toP hi (ev hi sl q.2)).bind fun t => (sliD p.1 q.1 t.1).map fun r => (r, t.2)
  | .nop, _, ss => some (.v .none, ss)
  | .rev a, sl, ss => (toD (ev a sl ss)).f revD
  | .bi f es, sl, ss => (toDs (evs es sl ss)).f (biD f)
  | .met m o es, sl, ss => (toD (ev o sl ss)).bind fun p => (toDs (evs es sl p.2)).bind fun q => (meD m p.1 q.1).map fun r => (r, q.2)
  | .call _ f es, sl, ss => (evs es sl ss).bind fun p => callD f p.1 p.2
  | .newk, _, ss => some (.nk [], ss)
  | .newt, _, ss => some (.nt [], ss)
  | .dhas b k i, sl, ss => (toD (ev k sl ss)).f (dhasD b sl i)
  | .dget i k, sl, ss => (toD (ev k sl ss)).f (dgetD sl i)
  | .dget2 i k d, sl, ss => (toD (ev k sl ss)).bind fun p => (toE (ev d sl p.2)).bind fun q => (dget2D sl i p.1 q.1).map fun r => (r, q.2)
  | .star e, sl, ss => (toI (ev e sl ss)).bind fun p => some (.st p.1, p.2)
  | .rg1 a, sl, ss => (toD (ev a sl ss)).f rg1D
  | .rg2 a b, sl, ss => (toD (ev a sl ss)).bind fun p => (toD (ev b sl p.2)).bind fun q => (rg2D p.1 q.1).map fun r => (r, q.2)
  | .rg3 _ _ _, _, _ => none
  | .enm a, sl, ss => (toD (ev a sl ss)).f enD
  | .zip a b, sl, ss => (toD (ev a sl ss)).bind fun p => (toD (ev b sl p.2)).bind fun q => (zipD p.1 q.1).map fun r => (r, q.2)
  | .sget k i, sl, ss => match isSrc sl i with
    | true => some (.v (.int (ss.get k)), ss)
    | false => none
  | .slen i, sl, ss => match isSrc sl i with
    | true => some (.v (.int ss.cells.length), ss)
    | false => none
def evs : List CE → List SV → SS → O (List R)
  | [], _, ss => some ([], ss)
  | e :: es, sl, ss => (ev e sl ss).bind fun p => (evs es sl p.2).bind fun q => some (p.1 :: q.1, q.2)
end
inductive Out where
  | nx (sl : List SV) (ss : SS)
  | rt (r : R) (ss : SS)
def toS : R → Option SV
  | .v d => some (.v d)
  | .fr xs => some (.own xs)
  | .src => some .src
  | .nk k => some (.dk k)
  | .nt k => some (.dt k)
  | _ => none
def setAll : List Nat → List SV → List SV → Option (List SV)
  | [], [], sl => some sl
  | j :: js, s :: r, sl => (setS sl j s).bind fun sl => setAll js r sl
  | _, _, _ => none
def toSs : List R → Option (List SV)
  | [] => some []
  | r :: rs => (toS r).bind fun a => (toSs rs).map (a :: ·)
def ownL : Option SV → Option (List D)
  | some (.own xs) => some xs
  | _ => none
def Out.of (x : Option (List SV)) (ss : SS) : Option Out := x.map fun sl => .nx sl ss
/-- x[k] = d on a list of one's own -/
def stoD (sl : List SV) (i : Nat) (k : D) (d : D) : Option (List SV) :=
  match sl[i]?, k with
  | some (.own xs), .int k => (ixN xs.length k).map fun j => sl.set i (.own (xs.set j d))
  | _, _ => none
def popAt (last : Bool) (xs : List D) (d : D) : Option (D × List D) :=
  match last with
  | true => xs.getLast?.map fun d => (d, xs.dropLast)
  | false => match d with
    | .int k => if -4611686018427387904 ≤ k ∧ k < 4611686018427387904 then (ixN xs.length k).bind fun j => xs[j]?.map fun d => (d, xs.eraseIdx j) else none
    | _ => none
def lockS (sl : List SV) (i : Nat) : List SV :=
  match sl[i]? with
  | some (.own xs) => sl.set i (.lock xs)
  | _ => sl
def isOwn (sl : List SV) (i : Nat) : Bool :=
  match sl[i]? with
  | some (.own _) => true
  | _ => false
def unlockS (b : Bool) (sl : List SV) (i : Nat) : List SV :=
  match b, sl[i]? with
  | true, some (.lock xs) => sl.set i (.own xs)
  | _, _ => sl
def frzS (sl : List SV) (i : Nat) : List SV :=
  match sl[i]? with
  | some (.own xs) => sl.set i (.v (.list xs))
  | _ => sl
/-- the turns of a for -/
def forD (f : D → List SV → SS → Option Out) : List D → List SV → SS → Option Out
  | [], sl, ss => some (.nx sl ss)
  | d :: ds, sl, ss => match f d sl ss with
    | some (.nx sl ss) => forD f ds sl ss
    | r => r
/-- the turns of a while -/
def whD (c : List SV → SS → O Bool) (f : List SV → SS → Option Out) : Nat → List SV → SS → Option Out
  | 0, _, _ => none
  | n + 1, sl, ss => (c sl ss).bind fun p => if p.1 then (match f sl p.2 with
      | some (.nx sl ss) => whD c f n sl ss
      | r => r) else some (.nx sl p.2)
/-- what a for walks is no list of one's own, or by its name -/
def noBo : CE → Bool
  | .loc _ => false
  | .ife _ _ _ => false
  | .enm a => noBo a
  | .zip a b => noBo a && noBo b
  | .star a => noBo a
  | _ => true
def lockOf : CE → Option (List Nat)
  | .loc i => some [i]
  | .enm (.loc i) => some [i]
  | e => if noBo e then some [] else none
def lockAll : List Nat → List SV → List SV
  | [], sl => sl
  | i :: is, sl => lockAll is (lockS sl i)
def ownAll (sl : List SV) (is : List Nat) : List (Nat × Bool) := is.map fun i => (i, isOwn sl i)
def isLock (sl : List SV) (i : Nat) : Bool :=
  match sl[i]? with
  | some (.lock _) => true
  | _ => false
def keptLocks (ls : List Nat) (x : Option Out) : Option Out :=
  match x with
  | some (.nx sl ss) => if ls.all (isLock sl) = true then some (.nx sl ss) else none
  | x => x
def unlockAll : List (Nat × Bool) → List SV → List SV
  | [], sl => sl
  | (i, b) :: r, sl => unlockAll r (unlockS b sl i)
def FUEL : Nat := 100000
def retR : R → Option R
  | .v d => some (.v d)
  | .fr xs => some (.fr xs)
  | .bo xs => some (.fr xs)
  | .src => some .src
  | _ => none
/-- x op= d of ints -/
def augI : BOp → D → D → Option D
  | .add, .int i, .int j => some (.int (i + j))
  | .sub, .int i, .int j => some (.int (i - j))
  | .mul, .int i, .int j => if i.natAbs < 18446744073709551616 ∨ j.natAbs < 18446744073709551616 then some (.int (i * j)) else none
  | .fdiv, .int i, .int j => if 0 < j ∧ j < 1073741824 then some (.int (i / j)) else none
  | .mod, .int i, .int j => if 0 < j then some (.int (i % j)) else none
  | _, _, _ => none
def augD (sl : List SV) (i : Nat) (o : BOp) (d : D) : Option (List SV) :=
  match sl[i]? with
  | some (.v x) => (augI o x d).map fun z => sl.set i (.v z)
  | some (.own xs) => match o, d with
    | .add, .list ys => if xs.length + ys.length ≤ SL then some (sl.set i (.own (xs ++ ys))) else none
    | _, _ => none
  | _ => none
def augsD (sl : List SV) (i : Nat) (k : D) (o : BOp) (d : D) : Option (List SV) :=
  match sl[i]?, k with
  | some (.own xs), .int k => (ixN xs.length k).bind fun j => xs[j]?.bind fun x => (augI o x d).map fun z => sl.set i (.own (xs.set j z))
  | _, _ => none
def toSet (x : O R) (sl : List SV) (i : Nat) : Option Out := x.bind fun p => (toS p.1).bind fun s => (setS sl i s).map fun sl => .nx sl p.2
def sputD (ss : SS) (k : SK) : D → Option SS
  | .int i => ss.put k i
  | _ => none
/-- the draws of a list in a drawn order -/
def mixD (f : Fn) : Nat → List D → SS → Option (List D × SS)
  | 0, _, ss => some ([], ss)
  | n + 1, xs, ss => (f [.src, .v (.int xs.length)] ss).bind fun p => match p.1 with
    | .v d => (popAt false xs d).bind fun q => (mixD f n q.2 p.2).map fun t => (q.1 :: t.1, t.2)
    | _ => none
mutual
def ex : CS → List SV → SS → Option Out
  | .set i e, sl, ss => toSet (ev e sl ss) sl i
  | .unp t e, sl, ss => (toD (ev e sl ss)).bind fun p => (bindT t p.1 sl).map fun sl => .nx sl p.2
  | .par js es, sl, ss => ((evs es sl ss).f toSs).bind fun p => (setAll js p.1 sl).map fun sl => .nx sl p.2
  | .sto i k e, sl, ss => (toE (ev e sl ss)).bind fun p => (toD (ev k sl p.2)).bind fun q => (stoD sl i q.1 p.1).map fun sl => .nx sl q.2
  | .sto2 i k j l e f, sl, ss => (toE (ev e sl ss)).bind fun p => (toE (ev f sl p.2)).bind fun q => (toD (ev k sl q.2)).bind fun t => (stoD sl i t.1 p.1).bind fun sl =>
      (toD (ev l sl t.2)).bind fun u => (stoD sl j u.1 q.1).map fun sl => .nx sl u.2
  | .aug i o e, sl, ss => (toD (ev e sl ss)).bind fun p => (augD sl i o p.1).map fun sl => .nx sl p.2
  | .augs i k o e, sl, ss => (toD (ev k sl ss)).bind fun p => (toD (ev e sl p.2)).bind fun q => (augsD sl i p.1 o q.1).map fun sl => .nx sl q.2
  | .app i e, sl, ss => (toE (ev e sl ss)).bind fun p => (ownL sl[i]?).bind fun xs => if xs.length < SL then some (.nx (sl.set i (.own (xs ++ [p.1]))) p.2) else none
  | .ext i e, sl, ss => (toD (ev e sl ss)).bind fun p => (ownL sl[i]?).bind fun xs => match p.1 with
    | .list ys => if xs.length + ys.length ≤ SL then some (.nx (sl.set i (.own (xs ++ ys))) p.2) else none
    | _ => none
  | .popS j i k, sl, ss => (toD (ev k sl ss)).bind fun p => (ownL sl[i]?).bind fun xs => (popAt (isNop k) xs p.1).bind fun q => (setS (sl.set i (.own q.2)) j (.v q.1)).map fun sl => .nx sl p.2
  | .exp e, sl, ss => (ev e sl ss).bind fun p => some (.nx sl p.2)
  | .ite c a b, sl, ss => (toB (ev c sl ss)).bind fun p => if p.1 then exs a sl p.2 else exs b sl p.2
  | .forr t it body, sl, ss => (lockOf it).bind fun is => (toI (ev it sl ss)).bind fun p =>
      match forD (fun d sl' ss => (bindT t d sl').bind fun sl' => keptLocks (is.filter (isLock (lockAll is sl))) (exs body sl' ss)) p.1 (lockAll is sl) p.2 with
      | some (.nx sl' ss') => some (.nx (unlockAll (ownAll sl is) sl') ss')
      | r => r
  | .whl c body, sl, ss => whD (fun sl ss => toB (ev c sl ss)) (fun sl ss => exs body sl ss) FUEL sl ss
  | .ret e, sl, ss => ((ev e sl ss).f retR).bind fun p => some (.rt p.1 p.2)
  | .retn, _, ss => some (.rt (.v .none) ss)
  | .frz i, sl, ss => some (.nx (frzS sl i) ss)
  | .kill js, sl, ss => some (.nx (killS js sl) ss)
  | .never, _, _ => none
  | .dput i k e, sl, ss => (toE (ev e sl ss)).bind fun p => (toD (ev k sl p.2)).bind fun q => (dputD sl i q.1 p.1).map fun sl => .nx sl q.2
  | .sput k i e, sl, ss => (toD (ev e sl ss)).bind fun p => match isSrc sl i with
    | true => (sputD p.2 k p.1).map fun s => .nx sl s
    | false => none
  | .spop i, sl, ss => match isSrc sl i, ss.cells with
    | true, c :: cs => some (.nx sl { ss with cells := cs, left := c })
    | _, _ => none
  | .appPop i j e, sl, ss => (toD (ev e sl ss)).bind fun p => (ownL sl[i]?).bind fun xs => (ownL sl[j]?).bind fun ys => (popAt false ys p.1).bind fun q =>
      if xs.length < SL ∧ i ≠ j then some (.nx ((sl.set j (.own q.2)).set i (.own (xs ++ [q.1]))) p.2) else none
  | .rmix r s lap x f, sl, ss => (ownL sl[r]?).bind fun xs => match isSrc sl s with
    | true => if xs.length ≤ SL ∧ lap ≠ r ∧ lap ≠ s then (mixD f xs.length xs ss).map fun p => .rt (.fr p.1) p.2 else none
    | false => none
def exs : List CS → List SV → SS → Option Out
  | [], sl, ss => some (.nx sl ss)
  | c :: cs, sl, ss => match ex c sl ss with
    | some (.nx sl ss) => exs cs sl ss
    | r => r
end
/-- a def: np parameters, N names -/
def runF (np N : Nat) (body : List CS) : Fn := fun args ss =>
  if args.length = np then match exs body (args.map AV.sv ++ List.replicate (N - np) .un) ss with
    | some (.rt r ss) => some (r, ss)
    | some (.nx _ ss) => some (.v .none, ss)
    | none => none
  else none
end Pm
/-! sorting data by insertion is what the layer's sort gives -/
namespace Pm
open PySem PySem.W PyProof.Rows
mutual
theorem ltD_eq : ∀ x y : D, alike x y = true → ltD x y = dataLt x y
  | .none, .none, _ => by rw [dataLt]; rfl
  | .bool a, .bool b, _ => by rw [dataLt_bool]; cases a <;> cases b <;> rfl
  | .int i, .int j, _ => by rw [dataLt_int]; rfl
  | .str x, .str y, _ => by rw [dataLt_str]; rfl
  | .list xs, .list ys, h => by rw [dataLt_list]; exact ltsD_eq xs ys (by simpa [alike] using h)
  | .tuple xs, .tuple ys, h => by rw [dataLt_tuple]; exact ltsD_eq xs ys (by simpa [alike] using h)
  | .none, .bool _, h | .none, .int _, h | .none, .str _, h | .none, .list _, h | .none, .tuple _, h | .none, .dict _, h => by simp [alike] at h
  | .bool _, .none, h | .bool _, .int _, h | .bool _, .str _, h | .bool _, .list _, h | .bool _, .tuple _, h | .bool _, .dict _, h => by simp [alike] at h
  | .int _, .none, h | .int _, .bool _, h | .int _, .str _, h | .int _, .list _, h | .int _, .tuple _, h | .int _, .dict _, h => by simp [alike] at h
  | .str _, .none, h | .str _, .bool _, h | .str _, .int _, h | .str _, .list _, h | .str _, .tuple _, h | .str _, .dict _, h => by simp [alike] at h
  | .list _, .none, h | .list _, .bool _, h | .list _, .int _, h | .list _, .str _, h | .list _, .tuple _, h | .list _, .dict _, h => by simp [alike] at h
  | .tuple _, .none, h | .tuple _, .bool _, h | .tuple _, .int _, h | .tuple _, .str _, h | .tuple _, .list _, h | .tuple _, .dict _, h => by simp [alike] at h
  | .dict _, _, h => by simp [alike] at h
theorem ltsD_eq : ∀ xs ys : List D, alikeAll xs ys = true → ltsD xs ys = PyProof.Rows.lexLt itemOrd (keyToksAll xs) (keyToksAll ys)
  | [], [], _ => by rw [PyProof.Rows.lex_irrefl]; rfl
  | [], y :: ys, _ => by
    rw [toks_all_cons]
    show true = PyProof.Rows.lexLt itemOrd [.inl 0] _
    rw [PyProof.Rows.lex_diff (by simp)]
    rfl
  | x :: xs, [], _ => by
    rw [toks_all_cons]
    show false = PyProof.Rows.lexLt itemOrd _ [.inl 0]
    rw [PyProof.Rows.lex_diff (by simp)]
    rfl
  | x :: xs, y :: ys, h => by
    obtain ⟨h1, h2⟩ := alike_all_cons h
    show (if PyData.eqv x y then ltsD xs ys else ltD x y) = _
    cases e : PyData.eqv x y with
    | true => rw [if_pos rfl, dataLt_all_yes h1 e]; exact ltsD_eq xs ys h2
    | false => rw [if_neg Bool.false_ne_true, dataLt_all_no h1 e]; exact ltD_eq x y h1
end
mutual
theorem eqv_eq : ∀ x y : D, alike x y = true → PyData.eqv x y = true → x = y
  | .none, .none, _, _ => rfl
  | .bool a, .bool b, _, e => by cases a <;> cases b <;> simp [PyData.eqv] at e ⊢
  | .int i, .int j, _, e => by simp [PyData.eqv] at e; rw [e]
  | .str x, .str y, _, e => by simp [PyData.eqv] at e; rw [e]
  | .list xs, .list ys, h, e => by rw [eqvAll_eq xs ys (by simpa [alike] using h) (by simpa [PyData.eqv] using e)]
  | .tuple xs, .tuple ys, h, e => by rw [eqvAll_eq xs ys (by simpa [alike] using h) (by simpa [PyData.eqv] using e)]
  | .none, .bool _, h, _ | .none, .int _, h, _ | .none, .str _, h, _ | .none, .list _, h, _ | .none, .tuple _, h, _ | .none, .dict _, h, _ => by simp [alike] at h
  | .bool _, .none, h, _ | .bool _, .int _, h, _ | .bool _, .str _, h, _ | .bool _, .list _, h, _ | .bool _, .tuple _, h, _ | .bool _, .dict _, h, _ => by simp [alike] at h
  | .int _, .none, h, _ | .int _, .bool _, h, _ | .int _, .str _, h, _ | .int _, .list _, h, _ | .int _, .tuple _, h, _ | .int _, .dict _, h, _ => by simp [alike] at h
  | .str _, .none, h, _ | .str _, .bool _, h, _ | .str _, .int _, h, _ | .str _, .list _, h, _ | .str _, .tuple _, h, _ | .str _, .dict _, h, _ => by simp [alike] at h
  | .list _, .none, h, _ | .list _, .bool _, h, _ | .list _, .int _, h, _ | .list _, .str _, h, _ | .list _, .tuple _, h, _ | .list _, .dict _, h, _ => by simp [alike] at h
  | .tuple _, .none, h, _ | .tuple _, .bool _, h, _ | .tuple _, .int _, h, _ | .tuple _, .str _, h, _ | .tuple _, .list _, h, _ | .tuple _, .dict _, h, _ => by simp [alike] at h
  | .dict _, _, h, _ => by simp [alike] at h
theorem eqvAll_eq : ∀ xs ys : List D, alikeAll xs ys = true → PyData.eqvAll xs ys = true → xs = ys
  | [], [], _, _ => rfl
  | [], _ :: _, _, e => by simp [PyData.eqvAll] at e
  | _ :: _, [], _, e => by simp [PyData.eqvAll] at e
  | x :: xs, y :: ys, h, e => by
    obtain ⟨h1, h2⟩ := alike_all_cons h
    rw [eqv_all_cons, Bool.and_eq_true] at e
    rw [eqv_eq x y h1 e.1, eqvAll_eq xs ys h2 e.2]
end
theorem toks_inj {x y : D} (h : alike x y = true) (e : keyToks x = keyToks y) : x = y := by
  obtain ⟨_, h2⟩ := toks_eqv x y h
  refine eqv_eq x y h ?_
  cases q : PyData.eqv x y with
  | true => rfl
  | false =>
    exfalso
    have a := h2 q [] [.inl 0]
    have b := h2 q [.inl 0] []
    rw [← a, ← e, lex_pre, lex_pre] at b
    simp [PyProof.Rows.lexLt] at b
theorem lt_anti {x y : D} (h : alike x y = true) (a : dataLt x y = false) (b : dataLt y x = false) : x = y := toks_inj h (PyProof.Rows.lex_total _ _ a b)
theorem le_data (x y : D) : dataLe false id x y = !dataLt y x := by rw [dataLe_eq]; rfl
theorem dle_trans (x y z : D) (a : dataLe false id x y = true) (b : dataLe false id y z = true) : dataLe false id x z = true := by
  rw [le_data, Bool.not_eq_true'] at *
  cases q : dataLt z x with
  | false => rfl
  | true =>
    exfalso
    have := (PyProof.Rows.listOrd itemOrd).negTrans _ (keyToks y) _ q
    simp only [dataLt] at a b
    first
      | (rcases this with c | c <;> simp_all)
      | simp_all
theorem dle_total (x y : D) : (dataLe false id x y || dataLe false id y x) = true := by
  rw [le_data, le_data]
  cases a : dataLt y x with
  | false => rfl
  | true =>
    cases b : dataLt x y with
    | false => rfl
    | true =>
      have := (PyProof.Rows.listOrd itemOrd).trans _ _ _ a b
      rw [(PyProof.Rows.listOrd itemOrd).irrefl] at this
      cases this
theorem insD_perm (x : D) : ∀ l, (insD x l).Perm (x :: l)
  | [] => .refl _
  | y :: r => by
    unfold insD
    split
    · exact ((insD_perm x r).cons y).trans (.swap x y r)
    · exact .refl _
theorem sortD_perm : ∀ l, (sortD l).Perm l
  | [] => .refl _
  | x :: r => (insD_perm x _).trans ((sortD_perm r).cons x)
theorem insD_pw (x : D) : ∀ l : List D, (∀ y ∈ l, alike y x = true ∧ alike x y = true) → l.Pairwise (fun a b => dataLe false id a b = true) → (insD x l).Pairwise (fun a b => dataLe false id a b = true)
  | [], _, _ => by simp [insD]
  | y :: r, hx, h => by
    rw [List.pairwise_cons] at h
    have e := ltD_eq y x (hx y List.mem_cons_self).1
    unfold insD
    split
    · rename_i hlt
      refine List.pairwise_cons.mpr ⟨fun z hz => ?_, insD_pw x r (fun z hz => hx z (List.mem_cons_of_mem _ hz)) h.2⟩
      rcases List.mem_cons.mp ((insD_perm x r).mem_iff.mp hz) with rfl | hz
      · rw [e] at hlt
        rw [le_data, Bool.not_eq_true']
        cases q : dataLt z y with
        | false => rfl
        | true =>
          have := (PyProof.Rows.listOrd itemOrd).trans _ _ _ hlt q
          rw [(PyProof.Rows.listOrd itemOrd).irrefl] at this
          cases this
      · exact h.1 z hz
    · rename_i hlt
      rw [Bool.not_eq_true] at hlt
      have hxy : dataLe false id x y = true := by rw [le_data, ← e, hlt]; rfl
      refine List.pairwise_cons.mpr ⟨fun z hz => ?_, List.pairwise_cons.mpr h⟩
      rcases List.mem_cons.mp hz with rfl | hz
      · exact hxy
      · exact dle_trans _ _ _ hxy (h.1 z hz)
theorem sortD_pw : ∀ l : List D, AllAlike l → (sortD l).Pairwise (fun a b => dataLe false id a b = true)
  | [], _ => .nil
  | x :: r, h => insD_pw x _ (fun y hy => ⟨h _ (List.mem_cons_of_mem _ ((sortD_perm r).mem_iff.mp hy)) _ List.mem_cons_self, h _ List.mem_cons_self _ (List.mem_cons_of_mem _ ((sortD_perm r).mem_iff.mp hy))⟩)
      (sortD_pw r fun a ha b hb => h a (List.mem_cons_of_mem _ ha) b (List.mem_cons_of_mem _ hb))
theorem perm_uniq {α : Type} {le : α → α → Bool} : ∀ {l m : List α}, l.Perm m → (∀ a ∈ l, ∀ b ∈ l, le a b = true → le b a = true → a = b) → l.Pairwise (fun a b => le a b = true) → m.Pairwise (fun a b => le a b = true) → l = m
  | [], m, p, _, _, _ => (List.Perm.nil_eq p)
  | x :: r, [], p, _, _, _ => by have := p.length_eq; simp at this
  | x :: r, y :: t, p, an, h1, h2 => by
    rw [List.pairwise_cons] at h1 h2
    have e : x = y := by
      have a : x ∈ y :: t := p.mem_iff.mp List.mem_cons_self
      have b : y ∈ x :: r := p.mem_iff.mpr List.mem_cons_self
      rcases List.mem_cons.mp a with a' | a'
      · exact a'
      · rcases List.mem_cons.mp b with b' | b'
        · exact b'.symm
        · exact an x List.mem_cons_self y b (h1.1 y b') (h2.1 x a')
    subst e
    rw [perm_uniq (List.Perm.cons_inv p) (fun a ha b hb => an a (List.mem_cons_of_mem _ ha) b (List.mem_cons_of_mem _ hb)) h1.2 h2.2]
theorem sortD_eq {l : List D} (h : AllAlike l) : l.mergeSort (dataLe false id) = sortD l := by
  refine (perm_uniq ((sortD_perm l).trans (List.mergeSort_perm l _).symm) (fun a ha b hb q1 q2 => ?_) (sortD_pw l h) (List.pairwise_mergeSort dle_trans dle_total l)).symm
  rw [le_data, Bool.not_eq_true'] at q1 q2
  have ma := (sortD_perm l).mem_iff.mp ha
  have mb := (sortD_perm l).mem_iff.mp hb
  exact lt_anti (h a ma b mb) q2 q1
theorem intsL_of : ∀ {xs : List D} {is : List Int}, intsL xs = some is → xs = is.map .int
  | [], is, e => by simp [intsL] at e; subst e; rfl
  | d :: r, is, e => by
    cases d with
    | int i =>
      simp only [intsL, Option.map_eq_some_iff] at e
      obtain ⟨js, e1, rfl⟩ := e
      rw [intsL_of e1]; rfl
    | _ => simp [intsL] at e
theorem intsL_map : ∀ is : List Int, intsL (is.map .int) = some is
  | [] => rfl
  | i :: is => by simp [intsL, intsL_map is]
theorem insD_int (x : Int) : ∀ l : List Int, insD (.int x) (l.map .int) = (insI x l).map .int
  | [] => rfl
  | y :: r => by
    show (if decide (y < x) = true then _ else _) = _
    unfold insI
    by_cases h : x ≤ y
    · rw [if_pos h, if_neg (by simp; omega)]; rfl
    · rw [if_neg h, if_pos (by simp; omega), insD_int x r]; rfl
theorem sortD_int : ∀ l : List Int, sortD (l.map .int) = (sortI l).map .int
  | [] => rfl
  | x :: r => by show insD _ (sortD (r.map .int)) = _; rw [sortD_int r, insD_int]; rfl
theorem intTup_of {d : D} (h : intTup d = true) : ∃ i is, d = .tuple ((i :: is).map .int) := by
  unfold intTup at h
  split at h
  · rename_i x xs
    obtain ⟨is, e⟩ := Option.isSome_iff_exists.mp h
    have := intsL_of e
    cases is with
    | nil => simp at this
    | cons i is => exact ⟨i, is, by rw [this]⟩
  · cases h
theorem depth_ints : ∀ is : List Int, PyData.depthAll (is.map .int) = 0
  | [] => by simp [PyData.depthAll]
  | i :: is => by simp [PyData.depthAll, PyData.depth, depth_ints is]
theorem sortable_of {xs : List D} (h : sortable xs = true) : AllAlike xs ∧ Sortable xs ∧ ∀ d ∈ xs, d.depth ≤ 64 := by
  unfold sortable at h
  rw [Bool.or_eq_true, Bool.or_eq_true] at h
  rcases h with (h | h) | h
  · obtain ⟨is, e⟩ := Option.isSome_iff_exists.mp h
    have := intsL_of e
    subst this
    refine ⟨fun d hd d' hd' => ?_, .inr fun d hd => ?_, fun d hd => ?_⟩
    · obtain ⟨i, _, rfl⟩ := List.mem_map.mp hd
      obtain ⟨j, _, rfl⟩ := List.mem_map.mp hd'
      simp [alike]
    · obtain ⟨i, _, rfl⟩ := List.mem_map.mp hd
      exact ⟨by simp, fun _ => by simp⟩
    · obtain ⟨i, _, rfl⟩ := List.mem_map.mp hd
      simp [PyData.depth]
  · have h := List.all_eq_true.mp h
    refine ⟨fun d hd d' hd' => ?_, .inl fun d hd => ?_, fun d hd => ?_⟩
    · obtain ⟨i, is, rfl⟩ := intTup_of (h d hd)
      obtain ⟨j, js, rfl⟩ := intTup_of (h d' hd')
      rw [alike]
      exact alike_ints _ _
    · obtain ⟨i, is, rfl⟩ := intTup_of (h d hd)
      exact ⟨_, _, rfl⟩
    · obtain ⟨i, is, rfl⟩ := intTup_of (h d hd)
      rw [PyData.depth, depth_ints]
      omega
  · simp only [Bool.and_eq_true, Bool.or_eq_true] at h
    obtain ⟨⟨h1, h2⟩, h3⟩ := h
    refine ⟨fun d hd d' hd' => List.all_eq_true.mp (List.all_eq_true.mp h1 d hd) d' hd', ?_, fun d hd => of_decide_eq_true (List.all_eq_true.mp h3 d hd)⟩
    rcases h2 with h2 | h2
    · refine .inl fun d hd => ?_
      have := List.all_eq_true.mp h2 d hd
      unfold neTup at this
      split at this
      · exact ⟨_, _, rfl⟩
      · cases this
    · refine .inr fun d hd => ?_
      have := List.all_eq_true.mp h2 d hd
      exact ⟨fun z => by subst z; simp [noTup] at this, fun xs z => by subst z; simp [noTup] at this⟩
end Pm
namespace Pm
open PySem PySem.Spec PyProof.Rows L2
mutual
/-- x is the value d; lists within are of those at F, which nobody changes -/
inductive FD (K : PySem.W.Frag) (F : Addr → Prop) (H : Hp) : V → D → Prop
  | non : FD K F H .non .none
  | bl (b : Bool) : FD K F H (.bl b) (.bool b)
  | int (i : Int) : FD K F H (.int i) (.int i)
  | str (x : Str) : FD K F H (.str x) (.str x)
  | lst {a : Addr} {vs : List V} {ds : List D} : F a → H a = some (.lst vs) → FDs K F H vs ds → FD K F H (.ref a) (.list ds)
  | tup {a : Addr} {vs : List V} {ds : List D} : SqT K H a vs → FDs K F H vs ds → FD K F H (.ref a) (.tuple ds)
inductive FDs (K : PySem.W.Frag) (F : Addr → Prop) (H : Hp) : List V → List D → Prop
  | nil : FDs K F H [] []
  | cons {v : V} {vs : List V} {d : D} {ds : List D} : FD K F H v d → FDs K F H vs ds → FDs K F H (v :: vs) (d :: ds)
end
section
variable {K : PySem.W.Frag} {F F' : Addr → Prop} {H H' : Hp}
theorem FDs.length : ∀ {vs : List V} {ds : List D}, FDs K F H vs ds → vs.length = ds.length
  | _, _, .nil => rfl
  | _, _, .cons _ r => congrArg (· + 1) r.length
theorem FDs.get : ∀ {vs : List V} {ds : List D} {i : Nat} {d : D}, FDs K F H vs ds → ds[i]? = some d → ∃ v, vs[i]? = some v ∧ FD K F H v d
  | _, _, _, _, .nil, e => by simp at e
  | _, _, 0, _, .cons r _, e => by simp at e; subst e; exact ⟨_, rfl, r⟩
  | _, _, i + 1, d, .cons _ t, e => by
    obtain ⟨u, h1, h2⟩ := FDs.get (i := i) (d := d) t (by simpa using e)
    exact ⟨u, by simpa using h1, h2⟩
theorem FDs.get' : ∀ {vs : List V} {ds : List D} {i : Nat} {v : V}, FDs K F H vs ds → vs[i]? = some v → ∃ d, ds[i]? = some d ∧ FD K F H v d
  | _, _, _, _, .nil, e => by simp at e
  | _, _, 0, _, .cons r _, e => by simp at e; subst e; exact ⟨_, rfl, r⟩
  | _, _, i + 1, d, .cons _ t, e => by
    obtain ⟨u, h1, h2⟩ := FDs.get' (i := i) (v := d) t (by simpa using e)
    exact ⟨u, by simpa using h1, h2⟩
theorem FDs.append : ∀ {vs ws : List V} {ds es : List D}, FDs K F H vs ds → FDs K F H ws es → FDs K F H (vs ++ ws) (ds ++ es)
  | _, _, _, _, .nil, s => s
  | _, _, _, _, .cons r t, s => .cons r (FDs.append t s)
theorem FDs.one {v : V} {d : D} (h : FD K F H v d) : FDs K F H [v] [d] := .cons h .nil
theorem FDs.take : ∀ {vs : List V} {ds : List D} (n : Nat), FDs K F H vs ds → FDs K F H (vs.take n) (ds.take n)
  | _, _, 0, _ => .nil
  | _, _, _ + 1, .nil => .nil
  | _, _, n + 1, .cons r t => .cons r (FDs.take n t)
theorem FDs.drop : ∀ {vs : List V} {ds : List D} (n : Nat), FDs K F H vs ds → FDs K F H (vs.drop n) (ds.drop n)
  | _, _, 0, r => r
  | _, _, _ + 1, .nil => .nil
  | _, _, n + 1, .cons _ t => FDs.drop n t
theorem FDs.rev : ∀ {vs : List V} {ds : List D}, FDs K F H vs ds → FDs K F H vs.reverse ds.reverse
  | _, _, .nil => .nil
  | _, _, .cons r t => by rw [List.reverse_cons, List.reverse_cons]; exact (FDs.rev t).append (.one r)
theorem FDs.set {v : V} {d : D} (h : FD K F H v d) : ∀ {vs : List V} {ds : List D} (i : Nat), FDs K F H vs ds → FDs K F H (vs.set i v) (ds.set i d)
  | _, _, _, .nil => .nil
  | _, _, 0, .cons _ t => .cons h t
  | _, _, i + 1, .cons q t => .cons q (FDs.set h i t)
theorem FDs.erase : ∀ {vs : List V} {ds : List D} (i : Nat), FDs K F H vs ds → FDs K F H (vs.eraseIdx i) (ds.eraseIdx i)
  | _, _, _, .nil => .nil
  | _, _, 0, .cons _ t => t
  | _, _, i + 1, .cons q t => .cons q (FDs.erase i t)
theorem FDs.rep : ∀ {vs : List V} {ds : List D} (n : Nat), FDs K F H vs ds → FDs K F H (List.replicate n vs).flatten (List.replicate n ds).flatten
  | _, _, 0, _ => .nil
  | vs, ds, n + 1, h => by
    rw [List.replicate_succ, List.replicate_succ, List.flatten_cons, List.flatten_cons]
    exact h.append (FDs.rep n h)
/-- what a change of the heap must leave -/
structure Ke (K : PySem.W.Frag) (F F' : Addr → Prop) (H H' : Hp) : Prop where
  tup : ∀ a vs, SqT K H a vs → SqT K H' a vs
  lst : ∀ a vs, F a → H a = some (.lst vs) → F' a ∧ H' a = some (.lst vs)
mutual
theorem FD.keep (k : Ke K F F' H H') : ∀ {v : V} {d : D}, FD K F H v d → FD K F' H' v d
  | _, _, .non => .non
  | _, _, .bl b => .bl b
  | _, _, .int i => .int i
  | _, _, .str x => .str x
  | _, _, .lst f e r => .lst (k.lst _ _ f e).1 (k.lst _ _ f e).2 (FDs.keep k r)
  | _, _, .tup s r => .tup (k.tup _ _ s) (FDs.keep k r)
theorem FDs.keep (k : Ke K F F' H H') : ∀ {vs : List V} {ds : List D}, FDs K F H vs ds → FDs K F' H' vs ds
  | _, _, .nil => .nil
  | _, _, .cons r t => .cons (FD.keep k r) (FDs.keep k t)
end
mutual
theorem FD.dp : ∀ {v : V} {d : D}, FD K F H v d → Dp K H v d
  | _, _, .non => .non
  | _, _, .bl b => .bl b
  | _, _, .int i => .int i
  | _, _, .str x => .str x
  | _, _, .lst f e r => .lst (.of e) (FDs.dp r)
  | _, _, .tup s r => .tup s (FDs.dp r)
theorem FDs.dp : ∀ {vs : List V} {ds : List D}, FDs K F H vs ds → DpAll K H vs ds
  | _, _, .nil => .nil
  | _, _, .cons r t => .cons (FD.dp r) (FDs.dp t)
end
mutual
/-- what holds no list leans on no list -/
theorem FD.free (k : ∀ a vs, SqT K H a vs → SqT K H' a vs) : ∀ {v : V} {d : D}, FD K F H v d → lf d = true → FD K F' H' v d
  | _, _, .non, _ => .non
  | _, _, .bl b, _ => .bl b
  | _, _, .int i, _ => .int i
  | _, _, .str x, _ => .str x
  | _, _, .lst f e r, h => by simp [lf] at h
  | _, _, .tup s r, h => .tup (k _ _ s) (FDs.free k r (by simpa [lf] using h))
theorem FDs.free (k : ∀ a vs, SqT K H a vs → SqT K H' a vs) : ∀ {vs : List V} {ds : List D}, FDs K F H vs ds → lf.lfs ds = true → FDs K F' H' vs ds
  | _, _, .nil, _ => .nil
  | _, _, .cons r t, h => by
    simp only [lf.lfs, Bool.and_eq_true] at h
    exact .cons (FD.free k r h.1) (FDs.free k t h.2)
end
theorem FDs.ints : ∀ {vs : List V} {ds : List D} {is : List Int}, FDs K F H vs ds → intsL ds = some is → vs = is.map V.int
  | _, _, _, .nil, e => by simp [intsL] at e; subst e; rfl
  | _, _, _, .cons (d := d) r t, e => by
    cases d with
    | int i =>
      simp only [intsL, Option.map_eq_some_iff] at e
      obtain ⟨js, e1, rfl⟩ := e
      cases r
      rw [FDs.ints t e1]; rfl
    | _ => simp [intsL] at e
theorem FDs.bools : ∀ {vs : List V} {ds : List D} {is : List Bool}, FDs K F H vs ds → boolsL ds = some is → vs = is.map V.bl
  | _, _, _, .nil, e => by simp [boolsL] at e; subst e; rfl
  | _, _, _, .cons (d := d) r t, e => by
    cases d with
    | bool i =>
      simp only [boolsL, Option.map_eq_some_iff] at e
      obtain ⟨js, e1, rfl⟩ := e
      cases r
      rw [FDs.bools t e1]; rfl
    | _ => simp [boolsL] at e
theorem FDs.of_ints (is : List Int) : FDs K F H (is.map V.int) (is.map PyData.int) := by
  induction is with
  | nil => exact .nil
  | cons i is ih => exact .cons (.int i) ih
end
/-- the ghost: where the source's dict and its list lie, the heap and the kept lists at the def's entry -/
structure G where
  A : Addr
  C : Addr
  He : Hp
  Fe : Addr → Prop
def SrcOk (A C : Addr) (ss : SS) (H : Hp) : Prop :=
  H A = some (.dK [(.inr "cells", .ref C), (.inr "left", .int ss.left), (.inr "mixed", .int ss.mixed), (.inr "turn", .int ss.turn)]) ∧
  H C = some (.lst (ss.cells.reverse.map V.int)) ∧ (∀ c ∈ ss.cells, 0 ≤ c) ∧ 0 ≤ ss.left ∧ ss.cells.length ≤ 1000 ∧ 0 ≤ ss.turn
def KVs {κ : Type} (K : PySem.W.Frag) (F : Addr → Prop) (H : Hp) : List (κ × V) → List (κ × D) → Prop := Paired fun p q => p.1 = q.1 ∧ FD K F H p.2 q.2
/-- a slot -/
def RS (K : PySem.W.Frag) (g : G) (F : Addr → Prop) (H : Hp) : SV → Option V → Prop
  | .un, _ => True
  | .v d, x => ∃ v, x = some v ∧ FD K F H v d
  | .own xs, x => ∃ a vs, x = some (.ref a) ∧ H a = some (.lst vs) ∧ FDs K F H vs xs ∧ ¬ F a ∧ a ≠ g.C ∧ g.He a = none
  | .lock xs, x => ∃ a vs, x = some (.ref a) ∧ H a = some (.lst vs) ∧ FDs K F H vs xs ∧ ¬ F a ∧ a ≠ g.C ∧ g.He a = none
  | .dk kvs, x => ∃ a vvs, x = some (.ref a) ∧ H a = some (.dK vvs) ∧ KVs K F H vvs kvs ∧ a ≠ g.A ∧ g.He a = none
  | .dt kvs, x => ∃ a vvs, x = some (.ref a) ∧ H a = some (.dT vvs) ∧ KVs K F H vvs kvs ∧ a ≠ g.A ∧ g.He a = none
  | .src, x => x = some (.ref g.A)
/-- slots that own -/
def SV.ow : SV → Bool
  | .own _ | .lock _ | .dk _ | .dt _ => true
  | _ => false
structure Rp (K : PySem.W.Frag) (g : G) (F : Addr → Prop) (ss : SS) (sl : List SV) (σ : L2.St) (H : Hp) : Prop where
  len : sl.length = σ.length
  slot : ∀ (i : Nat) (s : SV), sl[i]? = some s → ∃ x, σ[i]? = some x ∧ RS K g F H s x
  apart : ∀ (i j : Nat) (s t : SV) (a : Addr), i ≠ j → sl[i]? = some s → sl[j]? = some t → s.ow = true → t.ow = true → σ[i]? = some (some (.ref a)) → σ[j]? ≠ some (some (.ref a))
  ent : ∀ a o, g.He a = some o → a ≠ g.A → a ≠ g.C → H a = some o
  frz : ∀ a, F a → g.Fe a ∨ g.He a = none
  dom : ∀ a, F a → ∃ vs, H a = some (.lst vs)
  fe : ∀ a, g.Fe a → F a
  fC : ¬ F g.C
  eS : ∃ s, SrcOk g.A g.C s g.He
  src : SrcOk g.A g.C ss H
/-- the heap grows -/
structure Gr (g : G) (F F' : Addr → Prop) (H H' : Hp) : Prop where
  keep : ∀ a o, H a = some o → a ≠ g.A → a ≠ g.C → H' a = some o
  sub : ∀ a, F a → F' a
  new : ∀ a, F' a → F a ∨ H a = none
  dom : ∀ a, F' a → ∃ vs, H' a = some (.lst vs)
  fC : ¬ F' g.C
  src : ∃ ss ss', SrcOk g.A g.C ss H ∧ SrcOk g.A g.C ss' H'
section
variable {K : PySem.W.Frag} {g : G} {F F1 F2 F' : Addr → Prop} {ss ss' : SS} {sl : List SV} {σ : L2.St} {H H1 H2 H' : Hp}
theorem SrcOk.neAC (s : SrcOk g.A g.C ss H) : g.A ≠ g.C := by
  intro e
  have h1 := s.1
  have h2 := s.2.1
  rw [e, h2] at h1
  cases h1
theorem SqT.step (hs : SrcOk g.A g.C ss H) (k : ∀ a o, H a = some o → a ≠ g.A → a ≠ g.C → H' a = some o) {a : Addr} {vs : List V} (h : SqT K H a vs) : SqT K H' a vs := by
  have ne : ∀ o, H a = some o → (∀ kvs, o ≠ .dK kvs) → (∀ xs, o ≠ .lst xs) → a ≠ g.A ∧ a ≠ g.C := fun o e h1 h2 =>
    ⟨fun z => by subst z; rw [hs.1] at e; cases e; exact h1 _ rfl, fun z => by subst z; rw [hs.2.1] at e; cases e; exact h2 _ rfl⟩
  rcases h with (h | ⟨o, h⟩) | h
  · obtain ⟨n1, n2⟩ := ne _ h (fun _ z => by cases z) (fun _ z => by cases z)
    exact .inl (.inl (k _ _ h n1 n2))
  · obtain ⟨n1, n2⟩ := ne _ h (fun _ z => by cases z) (fun _ z => by cases z)
    exact .inl (.inr ⟨o, k _ _ h n1 n2⟩)
  · exact .inr h
theorem Gr.ke (r : Gr g F F' H H') (hf : ¬ F g.C) : Ke K F F' H H' := by
  obtain ⟨s0, s1, e0, e1⟩ := r.src
  refine ⟨fun a vs h => SqT.step e0 r.keep h, fun a vs f e => ⟨r.sub a f, r.keep a _ e (fun z => ?_) (fun z => ?_)⟩⟩
  · subst z; rw [e0.1] at e; cases e
  · subst z; exact hf f
theorem Gr.refl (s : SrcOk g.A g.C ss H) (d : ∀ a, F a → ∃ vs, H a = some (.lst vs)) (c : ¬ F g.C) : Gr g F F H H :=
  ⟨fun _ _ e _ _ => e, fun _ h => h, fun _ h => .inl h, d, c, ss, ss, s, s⟩
theorem Gr.back (r : Gr g F F1 H H1) {a : Addr} (e : H1 a = none) : H a = none := by
  cases q : H a with
  | none => rfl
  | some o =>
    obtain ⟨s0, s1, e0, e1⟩ := r.src
    have n1 : a ≠ g.A := fun z => by subst z; rw [e1.1] at e; cases e
    have n2 : a ≠ g.C := fun z => by subst z; rw [e1.2.1] at e; cases e
    rw [r.keep a o q n1 n2] at e; cases e
theorem Gr.trans (a : Gr g F F1 H H1) (b : Gr g F1 F2 H1 H2) : Gr g F F2 H H2 := by
  refine ⟨fun c o e n1 n2 => b.keep c o (a.keep c o e n1 n2) n1 n2, fun c h => b.sub c (a.sub c h), fun c h => ?_, b.dom, b.fC, ?_⟩
  · rcases b.new c h with h | h
    · exact a.new c h
    · exact .inr (a.back h)
  · obtain ⟨s0, _, e0, _⟩ := a.src
    obtain ⟨_, s1, _, e1⟩ := b.src
    exact ⟨s0, s1, e0, e1⟩
theorem SrcOk.upd (s : SrcOk g.A g.C ss H) {p : Addr} {o : HO} (hA : g.A ≠ p) (hC : g.C ≠ p) : SrcOk g.A g.C ss (upd H p o) := by
  refine ⟨?_, ?_, s.2.2⟩
  · rw [upd_ne hA]; exact s.1
  · rw [upd_ne hC]; exact s.2.1
theorem Rp.srcNe (r : Rp K g F ss sl σ H) {p : Addr} (hp : H p = none) : g.A ≠ p ∧ g.C ≠ p :=
  ⟨fun z => (by rw [← z, r.src.1] at hp; cases hp), fun z => (by rw [← z, r.src.2.1] at hp; cases hp)⟩
/-- a new object -/
theorem Rp.grUpd (r : Rp K g F ss sl σ H) {p : Addr} {o : HO} (hp : H p = none) : Gr g F F H (upd H p o) := by
  obtain ⟨nA, nC⟩ := r.srcNe hp
  refine ⟨fun a u e _ _ => ?_, fun _ h => h, fun _ h => .inl h, fun a f => ?_, r.fC, ss, ss, r.src, r.src.upd nA nC⟩
  · rw [upd_ne (ne_of_none e hp)]; exact e
  · obtain ⟨vs, e⟩ := r.dom a f
    exact ⟨vs, by rw [upd_ne (ne_of_none e hp)]; exact e⟩
/-- a new object that is kept -/
theorem Rp.grNew (r : Rp K g F ss sl σ H) {p : Addr} {vs : List V} (hp : H p = none) : Gr g F (fun a => F a ∨ a = p) H (upd H p (.lst vs)) := by
  obtain ⟨nA, nC⟩ := r.srcNe hp
  refine ⟨fun a u e _ _ => ?_, fun _ h => .inl h, fun a h => ?_, fun a f => ?_, fun f => ?_, ss, ss, r.src, r.src.upd nA nC⟩
  · rw [upd_ne (ne_of_none e hp)]; exact e
  · rcases h with h | h
    · exact .inl h
    · subst h; exact .inr hp
  · rcases f with f | f
    · obtain ⟨vs, e⟩ := r.dom a f
      exact ⟨vs, by rw [upd_ne (ne_of_none e hp)]; exact e⟩
    · subst f; exact ⟨vs, upd_same⟩
  · rcases f with f | f
    · exact r.fC f
    · exact nC f
theorem RS.keep {s : SV} {x : Option V} (h : RS K g F H s x) (r : Gr g F F' H H') (hf : ¬ F g.C) : RS K g F' H' s x := by
  have k : Ke K F F' H H' := r.ke hf
  obtain ⟨s0, s1, e0, e1⟩ := r.src
  have own : ∀ {a : Addr} {vs : List V}, H a = some (.lst vs) → ¬ F a → a ≠ g.C → H' a = some (.lst vs) ∧ ¬ F' a := fun {a vs} e nf nc => by
    refine ⟨r.keep a _ e (fun z => by subst z; rw [e0.1] at e; cases e) nc, fun f => ?_⟩
    rcases r.new a f with f | f
    · exact nf f
    · rw [e] at f; cases f
  cases s with
  | un => trivial
  | v d => obtain ⟨v, e, h⟩ := h; exact ⟨v, e, h.keep k⟩
  | own xs => obtain ⟨a, vs, e, h1, h2, h3, h4, h5⟩ := h; exact ⟨a, vs, e, (own h1 h3 h4).1, h2.keep k, (own h1 h3 h4).2, h4, h5⟩
  | lock xs => obtain ⟨a, vs, e, h1, h2, h3, h4, h5⟩ := h; exact ⟨a, vs, e, (own h1 h3 h4).1, h2.keep k, (own h1 h3 h4).2, h4, h5⟩
  | dk kvs =>
    obtain ⟨a, vvs, e, h1, h2, h3, h4⟩ := h
    exact ⟨a, vvs, e, r.keep a _ h1 h3 (fun z => by subst z; rw [e0.2.1] at h1; cases h1), Paired.mapP h2 fun p q z => ⟨z.1, z.2.keep k⟩, h3, h4⟩
  | dt kvs =>
    obtain ⟨a, vvs, e, h1, h2, h3, h4⟩ := h
    exact ⟨a, vvs, e, r.keep a _ h1 h3 (fun z => by subst z; rw [e0.2.1] at h1; cases h1), Paired.mapP h2 fun p q z => ⟨z.1, z.2.keep k⟩, h3, h4⟩
  | src => exact h
theorem Rp.step (p : Rp K g F ss sl σ H) (r : Gr g F F' H H') (hs : SrcOk g.A g.C ss' H') : Rp K g F' ss' sl σ H' := by
  refine ⟨p.len, fun i s e => ?_, p.apart, fun a o e n1 n2 => r.keep a o (p.ent a o e n1 n2) n1 n2, fun a f => ?_, r.dom, fun a f => r.sub a (p.fe a f), r.fC, p.eS, hs⟩
  · obtain ⟨x, e1, h⟩ := p.slot i s e
    exact ⟨x, e1, h.keep r p.fC⟩
  · rcases r.new a f with f | f
    · exact p.frz a f
    · right
      cases q : g.He a with
      | none => rfl
      | some o =>
        have n1 : a ≠ g.A := fun z => by subst z; rw [p.src.1] at f; cases f
        have n2 : a ≠ g.C := fun z => by subst z; rw [p.src.2.1] at f; cases f
        rw [p.ent a o q n1 n2] at f; cases f
theorem Rp.gr (p : Rp K g F ss sl σ H) : Gr g F F H H := .refl p.src p.dom p.fC
end
/-- what an expression gave: H_0 the heap ahead of it -/
def RR (K : PySem.W.Frag) (g : G) (F : Addr → Prop) (H0 H : Hp) : R → V → Prop
  | .v d, x => FD K F H x d
  | .fr xs, x => ∃ a vs, x = .ref a ∧ H a = some (.lst vs) ∧ FDs K F H vs xs ∧ ¬ F a ∧ H0 a = none
  | .bo xs, x => ∃ a vs, x = .ref a ∧ H a = some (.lst vs) ∧ FDs K F H vs xs ∧ a ≠ g.C ∧ g.He a = none ∧ ¬ F a
  | .src, x => x = .ref g.A
  | .nk kvs, x => ∃ a vvs, x = .ref a ∧ H a = some (.dK vvs) ∧ KVs K F H vvs kvs ∧ H0 a = none
  | .nt kvs, x => ∃ a vvs, x = .ref a ∧ H a = some (.dT vvs) ∧ KVs K F H vvs kvs ∧ H0 a = none
  | .bk kvs, x => ∃ a vvs, x = .ref a ∧ H a = some (.dK vvs) ∧ KVs K F H vvs kvs ∧ a ≠ g.A
  | .bt kvs, x => ∃ a vvs, x = .ref a ∧ H a = some (.dT vvs) ∧ KVs K F H vvs kvs ∧ a ≠ g.A
  | .it _, _ => False
  | .st _, _ => False
abbrev RRs (K : PySem.W.Frag) (g : G) (F : Addr → Prop) (H0 H : Hp) : List R → List V → Prop := Paired (RR K g F H0 H)
/-- readable as it stands -/
def RD (K : PySem.W.Frag) (F : Addr → Prop) (H : Hp) (x : V) (d : D) : Prop :=
  FD K F H x d ∨ ∃ a vs xs, d = .list xs ∧ x = .ref a ∧ H a = some (.lst vs) ∧ FDs K F H vs xs
section
variable {K : PySem.W.Frag} {g : G} {F F1 F2 F' : Addr → Prop} {ss ss' : SS} {sl : List SV} {σ : L2.St} {H H0 H1 H2 H' : Hp} {r : R} {x : V} {d : D}
/-- later -/
theorem RR.keep (h : RR K g F H0 H r x) (gr : Gr g F F' H H') (hf : ¬ F g.C) (h0 : Gr g F1 F H0 H) : RR K g F' H0 H' r x := by
  have k : Ke K F F' H H' := gr.ke hf
  obtain ⟨s0, s1, e0, e1⟩ := gr.src
  obtain ⟨t0, t1, z0, z1⟩ := h0.src
  have kL : ∀ {a : Addr} {vs : List V}, H a = some (.lst vs) → a ≠ g.C → H' a = some (.lst vs) := fun {a vs} e nc =>
    gr.keep a _ e (fun z => by subst z; rw [e0.1] at e; cases e) nc
  have nC : ∀ {a : Addr}, H0 a = none → a ≠ g.C := fun {a} e z => by subst z; rw [z0.2.1] at e; cases e
  have nA : ∀ {a : Addr}, H0 a = none → a ≠ g.A := fun {a} e z => by subst z; rw [z0.1] at e; cases e
  have nF : ∀ {a : Addr} {o : HO}, H a = some o → ¬ F a → ¬ F' a := fun {a o} e nf f => by
    rcases gr.new a f with f | f
    · exact nf f
    · rw [e] at f; cases f
  cases r with
  | v d => exact FD.keep k h
  | fr xs => obtain ⟨a, vs, e, h1, h2, h3, h4⟩ := h; exact ⟨a, vs, e, kL h1 (nC h4), h2.keep k, nF h1 h3, h4⟩
  | bo xs => obtain ⟨a, vs, e, h1, h2, h3, h4, h5⟩ := h; exact ⟨a, vs, e, kL h1 h3, h2.keep k, h3, h4, nF h1 h5⟩
  | src => exact h
  | nk kvs => obtain ⟨a, vvs, e, h1, h2, h3⟩ := h; exact ⟨a, vvs, e, gr.keep a _ h1 (nA h3) (nC h3), Paired.mapP h2 fun p q z => ⟨z.1, z.2.keep k⟩, h3⟩
  | nt kvs => obtain ⟨a, vvs, e, h1, h2, h3⟩ := h; exact ⟨a, vvs, e, gr.keep a _ h1 (nA h3) (nC h3), Paired.mapP h2 fun p q z => ⟨z.1, z.2.keep k⟩, h3⟩
  | bk kvs => obtain ⟨a, vvs, e, h1, h2, h3⟩ := h; exact ⟨a, vvs, e, gr.keep a _ h1 h3 (fun z => by subst z; rw [e0.2.1] at h1; cases h1), Paired.mapP h2 fun p q z => ⟨z.1, z.2.keep k⟩, h3⟩
  | bt kvs => obtain ⟨a, vvs, e, h1, h2, h3⟩ := h; exact ⟨a, vvs, e, gr.keep a _ h1 h3 (fun z => by subst z; rw [e0.2.1] at h1; cases h1), Paired.mapP h2 fun p q z => ⟨z.1, z.2.keep k⟩, h3⟩
  | it _ => exact h.elim
  | st _ => exact h.elim
/-- told from an earlier heap -/
theorem RR.early (h : RR K g F H1 H r x) (gr : Gr g F1 F2 H0 H1) : RR K g F H0 H r x := by
  cases r with
  | v d => exact h
  | fr xs => obtain ⟨a, vs, e, h1, h2, h3, h4⟩ := h; exact ⟨a, vs, e, h1, h2, h3, gr.back h4⟩
  | bo xs => exact h
  | src => exact h
  | nk kvs => obtain ⟨a, vvs, e, h1, h2, h3⟩ := h; exact ⟨a, vvs, e, h1, h2, gr.back h3⟩
  | nt kvs => obtain ⟨a, vvs, e, h1, h2, h3⟩ := h; exact ⟨a, vvs, e, h1, h2, gr.back h3⟩
  | bk kvs => exact h
  | bt kvs => exact h
  | it _ => exact h
  | st _ => exact h
theorem RR.rd (h : RR K g F H0 H r x) (e : rd r = some d) : RD K F H x d := by
  cases r with
  | v d' => cases e; exact .inl h
  | fr xs => cases e; obtain ⟨a, vs, rfl, h1, h2, _⟩ := h; exact .inr ⟨a, vs, xs, rfl, rfl, h1, h2⟩
  | bo xs => cases e; obtain ⟨a, vs, rfl, h1, h2, _⟩ := h; exact .inr ⟨a, vs, xs, rfl, rfl, h1, h2⟩
  | _ => cases e
/-- to be kept: the new list is one of those that nobody changes -/
theorem RR.esc (h : RR K g F H0 H r x) (e : esc r = some d) (gr : Gr g F1 F H0 H) : ∃ F', Gr g F1 F' H0 H ∧ FD K F' H x d := by
  have c := gr.fC
  obtain ⟨s0, s1, e0, e1⟩ := gr.src
  cases r with
  | v d' => cases e; exact ⟨F, gr, h⟩
  | fr xs =>
    cases e
    obtain ⟨a, vs, rfl, h1, h2, h3, h4⟩ := h
    have nC : a ≠ g.C := fun z => by subst z; rw [e0.2.1] at h4; cases h4
    have dom : ∀ b, (F b ∨ b = a) → ∃ vs, H b = some (.lst vs) := fun b f => by
      rcases f with f | rfl
      · exact gr.dom b f
      · exact ⟨vs, h1⟩
    have fC : ¬ (F g.C ∨ g.C = a) := fun f => f.elim c fun z => nC z.symm
    refine ⟨fun b => F b ∨ b = a, ⟨gr.keep, fun b f => .inl (gr.sub b f), fun b f => ?_, dom, fC, s0, s1, e0, e1⟩, .lst (.inr rfl) h1 (h2.keep ⟨fun _ _ z => z, fun _ _ f z => ⟨.inl f, z⟩⟩)⟩
    rcases f with f | rfl
    · exact gr.new b f
    · exact .inr h4
  | _ => cases e
theorem RD.dp (h : RD K F H x d) : Dp K H x d := by
  rcases h with h | ⟨a, vs, xs, rfl, rfl, h1, h2⟩
  · exact h.dp
  · exact .lst (.of h1) h2.dp
theorem RD.keep (h : RD K F H x d) (k : Ke K F F' H H') (hl : ∀ a vs, x = .ref a → H a = some (.lst vs) → H' a = some (.lst vs)) : RD K F' H' x d := by
  rcases h with h | ⟨a, vs, xs, rfl, rfl, h1, h2⟩
  · exact .inl (h.keep k)
  · exact .inr ⟨a, vs, xs, rfl, rfl, hl _ _ rfl h1, h2.keep k⟩
end
end Pm
namespace Pm
open PySem PySem.Spec PyProof.Rows L2
/-- what follows a value r, made at H -/
def Kt (K : PySem.W.Frag) (g : G) (F : Addr → Prop) (ss : SS) (H : Hp) (r : R) (Q : VK) : Prop := ∀ z H' F', Gr g F F' H H' → SrcOk g.A g.C ss H' → RR K g F' H H' r z → Q z H'
/-- what holds where values are reckoned with -/
structure At (K : PySem.W.Frag) (g : G) (F : Addr → Prop) (ss : SS) (H : Hp) : Prop where
  dom : ∀ a, F a → ∃ vs, H a = some (.lst vs)
  fC : ¬ F g.C
  src : SrcOk g.A g.C ss H
section
variable {K : PySem.W.Frag} {g : G} {F : Addr → Prop} {ss : SS} {sl : List SV} {σ : L2.St} {H : Hp} {Q : VK} {d : D} {r : R} {xs : List D} {vs : List V}
theorem Rp.at (r : Rp K g F ss sl σ H) : At K g F ss H := ⟨r.dom, r.fC, r.src⟩
theorem Gr.at {F' : Addr → Prop} {H' : Hp} (r : Gr g F F' H H') (s : SrcOk g.A g.C ss H') : At K g F' ss H' := ⟨r.dom, r.fC, s⟩
theorem At.gr (a : At K g F ss H) : Gr g F F H H := .refl a.src a.dom a.fC
theorem At.ne (r : At K g F ss H) {p : Addr} (hp : H p = none) : g.A ≠ p ∧ g.C ≠ p :=
  ⟨fun z => (by rw [← z, r.src.1] at hp; cases hp), fun z => (by rw [← z, r.src.2.1] at hp; cases hp)⟩
theorem At.upd (r : At K g F ss H) {p : Addr} {o : HO} (hp : H p = none) : Gr g F F H (upd H p o) := by
  obtain ⟨nA, nC⟩ := r.ne hp
  refine ⟨fun a u e _ _ => ?_, fun _ h => h, fun _ h => .inl h, fun a f => ?_, r.fC, ss, ss, r.src, r.src.upd nA nC⟩
  · rw [upd_ne (ne_of_none e hp)]; exact e
  · obtain ⟨vs, e⟩ := r.dom a f
    exact ⟨vs, by rw [upd_ne (ne_of_none e hp)]; exact e⟩
theorem At.nf (r : At K g F ss H) {p : Addr} (hp : H p = none) : ¬ F p := fun f => by
  obtain ⟨vs, e⟩ := r.dom p f
  rw [hp] at e; cases e
theorem At.ke (r : At K g F ss H) {p : Addr} {o : HO} (hp : H p = none) : Ke K F F H (L2.upd H p o) := (r.upd hp).ke r.fC
/-- a value that is there -/
theorem Kt.val {x : V} (a : At K g F ss H) (k : Kt K g F ss H (.v d) Q) (h : FD K F H x d) : Q x H := k x H F a.gr a.src h
/-- a new list -/
theorem Kt.lst {p : Addr} (a : At K g F ss H) (k : Kt K g F ss H (.fr xs) Q) (h : FDs K F H vs xs) (hp : H p = none) : Q (.ref p) (upd H p (.lst vs)) :=
  k _ _ F (a.upd hp) (a.src.upd (a.ne hp).1 (a.ne hp).2) ⟨p, vs, rfl, upd_same, h.keep (a.ke hp), a.nf hp, hp⟩
/-- a new tuple -/
theorem Kt.tup {p : Addr} (a : At K g F ss H) (k : Kt K g F ss H (.v (.tuple xs)) Q) (h : FDs K F H vs xs) (hp : H p = none) : Q (.ref p) (upd H p (.tup vs)) :=
  k _ _ F (a.upd hp) (a.src.upd (a.ne hp).1 (a.ne hp).2) (.tup (.of upd_same) (h.keep (a.ke hp)))
theorem RD.int {x : V} {i : Int} (h : RD K F H x (.int i)) : x = .int i := by
  rcases h with h | ⟨_, _, _, e, _⟩
  · cases h; rfl
  · cases e
theorem RD.bool {x : V} {i : Bool} (h : RD K F H x (.bool i)) : x = .bl i := by
  rcases h with h | ⟨_, _, _, e, _⟩
  · cases h; rfl
  · cases e
theorem RD.str {x : V} {i : Str} (h : RD K F H x (.str i)) : x = .str i := by
  rcases h with h | ⟨_, _, _, e, _⟩
  · cases h; rfl
  · cases e
theorem RD.none {x : V} (h : RD K F H x .none) : x = .non := by
  rcases h with h | ⟨_, _, _, e, _⟩
  · cases h; rfl
  · cases e
theorem RD.tup {x : V} {xs : List D} (h : RD K F H x (.tuple xs)) : ∃ a vs, x = .ref a ∧ SqT K H a vs ∧ FDs K F H vs xs := by
  rcases h with h | ⟨_, _, _, e, _⟩
  · cases h with | tup s r => exact ⟨_, _, rfl, s, r⟩
  · cases e
theorem RD.lst {x : V} {xs : List D} (h : RD K F H x (.list xs)) : ∃ a vs, x = .ref a ∧ H a = some (.lst vs) ∧ FDs K F H vs xs := by
  rcases h with h | ⟨a, vs, ys, e, e2, h1, h2⟩
  · cases h with | lst f e r => exact ⟨_, _, rfl, e, r⟩
  · cases e; exact ⟨a, vs, e2, h1, h2⟩
theorem RD.seq {x : V} {xs : List D} (h : RD K F H x d) (e : seqOf d = some xs) : ∃ a vs, x = .ref a ∧ (SqL K H a vs ∨ SqT K H a vs) ∧ FDs K F H vs xs := by
  cases d with
  | list ys => cases e; obtain ⟨a, vs, e1, e2, r⟩ := h.lst; exact ⟨a, vs, e1, .inl (.of e2), r⟩
  | tuple ys => cases e; obtain ⟨a, vs, e1, e2, r⟩ := h.tup; exact ⟨a, vs, e1, .inr e2, r⟩
  | _ => cases e
end
theorem SL_eq : sizeLine = SL := sizeLine_eq
section
variable {X : Cx}
/-- a two-place rule by the values that are read -/
def rB (K : PySem.W.Frag) (g : G) (f : D → D → Option R) : R2 := fun x y H Q => ∃ F ss dx dy r, At K g F ss H ∧ RD K F H x dx ∧ RD K F H y dy ∧ f dx dy = some r ∧ Kt K g F ss H r Q
theorem op_addD {g : G} : OpR X (binaryOp .Add) (rB X.K g addD) := by
  intro pins s σ H x y v u Q I rx ry ⟨F, ss, dx, dy, r, a, hx, hy, e, k⟩
  unfold addD at e
  split at e
  · cases e
    obtain rfl := hx.int; obtain rfl := hy.int
    exact op_add pins s σ H _ _ v u Q I rx ry ⟨_, _, rfl, rfl, k.val a (.int _)⟩
  · split at e <;> cases e
    rename_i hl
    obtain ⟨p, vs, rfl, sp, fp⟩ := hx.tup
    obtain ⟨q, ws, rfl, sq, fq⟩ := hy.tup
    refine op_catA pins s σ H _ _ v u Q I rx ry ⟨p, q, vs, ws, rfl, rfl, sp, sq, by rw [fp.length, fq.length, SL_eq]; exact hl, fun z => ?_, fun _ z => ?_, fun _ _ c hc => ?_⟩
    · subst z; cases fp; exact k.val a (.tup sq fq)
    · subst z; cases fq; rw [List.append_nil] at k; exact k.val a (.tup sp fp)
    · exact k.tup a (fp.append fq) hc
  · split at e <;> cases e
    rename_i hl
    obtain ⟨p, vs, rfl, sp, fp⟩ := hx.lst
    obtain ⟨q, ws, rfl, sq, fq⟩ := hy.lst
    exact op_cat pins s σ H _ _ v u Q I rx ry ⟨p, q, vs, ws, rfl, rfl, sp, sq, by rw [fp.length, fq.length, SL_eq]; exact hl, fun c hc => k.lst a (fp.append fq) hc⟩
  · split at e <;> cases e
    rename_i hl
    obtain rfl := hx.str; obtain rfl := hy.str
    exact op_add_str pins s σ H _ _ v u Q I rx ry ⟨_, _, rfl, rfl, by rw [SL_eq]; exact hl, k.val a (.str _)⟩
  · cases e
theorem op_subD {g : G} : OpR X (binaryOp .Sub) (rB X.K g subD) := by
  intro pins s σ H x y v u Q I rx ry ⟨F, ss, dx, dy, r, a, hx, hy, e, k⟩
  unfold subD at e
  split at e
  · cases e
    obtain rfl := hx.int; obtain rfl := hy.int
    exact op_sub pins s σ H _ _ v u Q I rx ry ⟨_, _, rfl, rfl, k.val a (.int _)⟩
  · cases e
theorem op_mulD {g : G} : OpR X (binaryOp .Mult) (rB X.K g mulD) := by
  intro pins s σ H x y v u Q I rx ry ⟨F, ss, dx, dy, r, a, hx, hy, e, k_⟩
  unfold mulD at e
  split at e
  · split at e <;> cases e
    rename_i i j hl
    obtain rfl := hx.int; obtain rfl := hy.int
    rcases hl with hl | hl | hl
    · exact op_mul pins s σ H _ _ v u Q I rx ry ⟨_, _, rfl, rfl, .inl (by omega), k_.val a (.int _)⟩
    · exact op_mul pins s σ H _ _ v u Q I rx ry ⟨_, _, rfl, rfl, .inr (by omega), k_.val a (.int _)⟩
    · exact op_mulW pins s σ H _ _ v u Q I rx ry ⟨_, _, rfl, rfl, hl, k_.val a (.int _)⟩
  · split at e <;> cases e
    rename_i hl
    obtain ⟨p, vs, rfl, sp, fp⟩ := hx.lst
    obtain rfl := hy.int
    exact op_rep pins s σ H _ _ v u Q I rx ry ⟨p, _, vs, rfl, rfl, sp, by omega, by omega, by rw [fp.length, SL_eq]; exact hl.2.2, fun c hc => k_.lst a (fp.rep _) hc⟩
  · split at e <;> cases e
    rename_i xs k hl
    obtain ⟨⟨h1, h2⟩, hl⟩ := hl
    obtain ⟨p, vs, rfl, sp, fp⟩ := hx.tup
    obtain rfl := hy.int
    have e1 := fp.length
    by_cases hs : vs = [] ∨ k = 1
    · have ee : (List.replicate k.toNat xs).flatten = xs := by
        rcases hs with hs | hs
        · subst hs; cases fp; simp
        · subst hs; simp [List.replicate]
      rw [ee] at k_
      exact op_repS pins s σ H _ _ v u Q I rx ry ⟨p, _, vs, rfl, rfl, sp, h1, h2, .inl ⟨hs, k_.val a (.tup sp fp)⟩⟩
    · rw [not_or] at hs
      by_cases hk : k ≤ 0
      · have ee : (List.replicate k.toNat xs).flatten = [] := by
          have : k.toNat = 0 := by omega
          rw [this]; rfl
        rw [ee] at k_
        exact op_repS pins s σ H _ _ v u Q I rx ry ⟨p, _, vs, rfl, rfl, sp, h1, h2, .inr ⟨hk, hs.1, fun c hc => k_.tup a .nil hc⟩⟩
      · have hv : vs.length ≠ 0 := fun z => hs.1 (List.eq_nil_of_length_eq_zero z)
        exact op_repT pins s σ H _ _ v u Q I rx ry ⟨p, _, vs, rfl, rfl, sp, hs.1, by omega, by omega, by omega, fun c hc => k_.tup a (fp.rep _) hc⟩
  · cases e
theorem op_fdivD {g : G} : OpR X (binaryOp .FloorDiv) (rB X.K g fdivD) := by
  intro pins s σ H x y v u Q I rx ry ⟨F, ss, dx, dy, r, a, hx, hy, e, k⟩
  unfold fdivD at e
  split at e
  · split at e <;> cases e
    rename_i hl
    obtain rfl := hx.int; obtain rfl := hy.int
    exact op_fdivW pins s σ H _ _ v u Q I rx ry ⟨_, _, rfl, rfl, hl, k.val a (.int _)⟩
  · cases e
theorem op_modD {g : G} : OpR X (binaryOp .Mod) (rB X.K g modD) := by
  intro pins s σ H x y v u Q I rx ry ⟨F, ss, dx, dy, r, a, hx, hy, e, k⟩
  unfold modD at e
  split at e
  · split at e <;> cases e
    rename_i hl
    obtain rfl := hx.int; obtain rfl := hy.int
    exact op_mod pins s σ H _ _ v u Q I rx ry ⟨_, _, rfl, rfl, hl, k.val a (.int _)⟩
  · cases e
theorem op_powD {g : G} : OpR X (binaryOp .Pow) (rB X.K g powD) := by
  intro pins s σ H x y v u Q I rx ry ⟨F, ss, dx, dy, r, a, hx, hy, e, k⟩
  unfold powD at e
  split at e
  · split at e <;> cases e
    rename_i hl
    obtain rfl := hx.int; obtain rfl := hy.int
    exact op_pow pins s σ H _ _ v u Q I rx ry ⟨_, _, rfl, rfl, ⟨hl.1, hl.2.1, hl.2.2⟩, k.val a (.int _)⟩
  · cases e
def opOf : BOp → Operator
  | .add => .Add | .sub => .Sub | .mul => .Mult | .fdiv => .FloorDiv | .mod => .Mod | .pow => .Pow
theorem op_binD {g : G} (o : BOp) : OpR X (binaryOp (opOf o)) (rB X.K g (binD o)) := by
  cases o
  · exact op_addD
  · exact op_subD
  · exact op_mulD
  · exact op_fdivD
  · exact op_modD
  · exact op_powD
/-- comparisons -/
def rC (K : PySem.W.Frag) (g : G) (f : D → D → Option Bool) : R2 := fun x y H Q => ∃ F ss dx dy b, At K g F ss H ∧ RD K F H x dx ∧ RD K F H y dy ∧ f dx dy = some b ∧ Kt K g F ss H (bl b) Q
theorem shaped_int (i : Int) : SeqAt.shaped (.int i) = true := rfl
theorem eqD_of {a b : D} {r : Bool} (e : eqD a b = some r) : (∃ x y, a = .str x ∧ b = .str y ∧ r = (x == y)) ∨ (SeqAt.shaped a = true ∧ SeqAt.shaped b = true ∧ r = PyData.eqv a b) := by
  unfold eqD at e
  split at e
  · cases e; exact .inr ⟨rfl, rfl, by simp [PyData.eqv]⟩
  · cases e; exact .inl ⟨_, _, rfl, rfl, rfl⟩
  · split at e <;> cases e
    rename_i h
    exact .inr ⟨h.1, h.2, rfl⟩
theorem op_eqG {g : G} (hu : X.A.units + 64 < cLine) : OpR X (compareOp .Eq) (rC X.K g eqD) := by
  intro pins s σ H x y v u Q I rx ry ⟨F, ss, dx, dy, b, a, hx, hy, e, k⟩
  rcases eqD_of e with ⟨p, q, rfl, rfl, rfl⟩ | ⟨h1, h2, rfl⟩
  · obtain rfl := hx.str
    obtain rfl := hy.str
    exact op_eq pins s σ H _ _ v u Q I rx ry ⟨rfl, by rw [dec_str]; exact k.val a (.bl _)⟩
  · exact op_eqD hu pins s σ H _ _ v u Q I rx ry ⟨dx, dy, hx.dp, hy.dp, h1, h2, k.val a (.bl _)⟩
theorem op_neG {g : G} (hu : X.A.units + 64 < cLine) : OpR X (compareOp .NotEq) (rC X.K g fun x y => (eqD x y).map (!·)) := by
  intro pins s σ H x y v u Q I rx ry ⟨F, ss, dx, dy, b, a, hx, hy, e, k⟩
  obtain ⟨c, e1, rfl⟩ := Option.map_eq_some_iff.mp e
  rcases eqD_of e1 with ⟨p, q, rfl, rfl, rfl⟩ | ⟨h1, h2, rfl⟩
  · obtain rfl := hx.str
    obtain rfl := hy.str
    exact op_ne pins s σ H _ _ v u Q I rx ry ⟨rfl, by rw [dec_str]; exact k.val a (.bl _)⟩
  · exact op_neD hu pins s σ H _ _ v u Q I rx ry ⟨dx, dy, hx.dp, hy.dp, h1, h2, k.val a (.bl _)⟩
theorem op_ordG {g : G} {op : CmpOp} {f : Int → Int → Bool} (h : OpR X (compareOp op) (rI0 fun i j => .bl (f i j))) : OpR X (compareOp op) (rC X.K g (ordD f)) := by
  intro pins s σ H x y v u Q I rx ry ⟨F, ss, dx, dy, b, a, hx, hy, e, k⟩
  unfold ordD at e
  split at e
  · cases e
    obtain rfl := hx.int; obtain rfl := hy.int
    exact h pins s σ H _ _ v u Q I rx ry ⟨_, _, rfl, rfl, k.val a (.bl _)⟩
  · cases e
theorem flatD_of {F : Addr → Prop} {K : PySem.W.Frag} {H : Hp} {x : V} {d : D} (h : FD K F H x d) (f : flatD d = true) : flatV x = true := by
  cases h <;> first | rfl | simp [flatD] at f
theorem flatD_all {F : Addr → Prop} {K : PySem.W.Frag} {H : Hp} : ∀ {xs : List V} {ds : List D}, FDs K F H xs ds → ds.all flatD = true → xs.all flatV = true
  | _, _, .nil, _ => rfl
  | _, _, .cons r t, f => by
    simp only [List.all_cons, Bool.and_eq_true] at f ⊢
    exact ⟨flatD_of r f.1, flatD_all t f.2⟩
theorem eqV_of {F : Addr → Prop} {K : PySem.W.Frag} {H : Hp} {x y : V} {d e : D} (h : FD K F H x d) (f : flatD d = true) (h' : FD K F H y e) (f' : flatD e = true) : eqV x y = PyData.eqv d e := by
  cases h <;> cases h' <;> first | rfl | (simp [eqV, PyData.eqv]; done) | (simp [flatD] at f; done) | (simp [flatD] at f'; done)
theorem inV_of {F : Addr → Prop} {K : PySem.W.Frag} {H : Hp} {x : V} {d : D} (h : FD K F H x d) (f : flatD d = true) : ∀ {ys : List V} {ds : List D}, FDs K F H ys ds → ds.all flatD = true → inV x ys = ds.any fun z => PyData.eqv z d
  | _, _, .nil, _ => rfl
  | _, _, .cons r t, g => by
    simp only [List.all_cons, Bool.and_eq_true] at g
    have ih := inV_of h f t g.2
    unfold inV at ih ⊢
    rw [List.any_cons, List.any_cons, ih, eqV_of r g.1 h f]
theorem op_inG {g : G} (hu : X.A.units + 65 < cLine) : OpR X (compareOp .In) (rC X.K g inD) := by
  intro pins s σ H x y v u Q I rx ry ⟨F, ss, dx, dy, b, a, hx, hy, e, k⟩
  unfold inD at e
  split at e
  · split at e <;> cases e
    rename_i h
    exact op_inD hu pins s σ H _ _ v u Q I rx ry ⟨dx, _, hx.dp, hy.dp, h.1, h.2, k.val a (.bl _)⟩
  · split at e <;> cases e
    rename_i h
    obtain ⟨p, vs, rfl, sp, fp⟩ := hy.tup
    have hx' : FD X.K F H x dx := by
      rcases hx with hx | ⟨_, _, _, rfl, _⟩
      · exact hx
      · simp [flatD] at h
    refine op_in_seq pins s σ H _ _ v u Q I rx ry ⟨p, vs, rfl, .inr sp, flatD_of hx' h.1, flatD_all fp h.2, ?_⟩
    rw [inV_of hx' h.1 fp h.2]
    exact k.val a (.bl _)
  · cases e
theorem op_notInG {g : G} (hu : X.A.units + 65 < cLine) : OpR X (compareOp .NotIn) (rC X.K g fun x y => (inD x y).map (!·)) := by
  intro pins s σ H x y v u Q I rx ry ⟨F, ss, dx, dy, b, a, hx, hy, e, k⟩
  obtain ⟨c, e1, rfl⟩ := Option.map_eq_some_iff.mp e
  unfold inD at e1
  split at e1
  · split at e1 <;> cases e1
    rename_i h
    exact op_notInD hu pins s σ H _ _ v u Q I rx ry ⟨dx, _, hx.dp, hy.dp, h.1, h.2, k.val a (.bl _)⟩
  · split at e1 <;> cases e1
    rename_i h
    obtain ⟨p, vs, rfl, sp, fp⟩ := hy.tup
    have hx' : FD X.K F H x dx := by
      rcases hx with hx | ⟨_, _, _, rfl, _⟩
      · exact hx
      · simp [flatD] at h
    refine op_notIn_seq pins s σ H _ _ v u Q I rx ry ⟨p, vs, rfl, .inr sp, flatD_of hx' h.1, flatD_all fp h.2, ?_⟩
    rw [inV_of hx' h.1 fp h.2]
    exact k.val a (.bl _)
  · cases e1
theorem isNone_of {F : Addr → Prop} {K : PySem.W.Frag} {H : Hp} {x : V} {d : D} (h : RD K F H x d) : decide (x = .non) = isNone d := by
  rcases h with h | ⟨_, _, _, rfl, rfl, _⟩
  · cases h <;> rfl
  · rfl
end
end Pm
namespace Pm
open PySem PySem.Spec PyProof.Rows PySem.W
/-! ### sorted(x), x a list or a tuple, its items alike -/
section
variable {prog : Program} {w : World} {A : Around} {E : Value → Shared → Prop} {s : Shared}
theorem sorted_go {l : Addr} {T : String} {o : Obj} {vs : List Value} {n : Nat} {Q : Value → Shared → Prop} (hT : T = "list" ∨ T = "tuple") (ho : s.heap.get? l = some o) (hc : o.cls = .type T) (hd : o.data = .seq vs.toArray n) (hz : vs.length ≤ sizeLine)
    (h : ∀ (h1 : Heap), (∀ b o, s.heap.get? b = some o → h1.get? b = some o) → ∀ E', wpAny (model prog w) A.in1.in1 (Builtin.«list.sort» ⟨[.ref h1.objs.size], []⟩) (fun f s' => f = .done (.ret .none) ∧ Q (.ref h1.objs.size) s') E' { s with heap := h1.push (seqObj "list" vs.toArray 0) }) :
    wpAny (model prog w) A (call (.builtin "sorted") [.ref l]) Q E s := by
  refine call_function_entry_kw kind_sorted plain_sorted entry_sorted (args_sorted1 _) ?_
  unfold Builtin.«sorted»
  refine wpAny_bind (m := checkCount "sorted" 1 1 _) (wpAny_pure ?_)
  refine wpAny_bind (wpAny_collect_seq l hT ho hc hd (fun h1 k1 => ?_) (by rw [List.size_toArray]; exact hz))
  have e : vs.toArray.toList = vs := by simp
  rw [e]
  refine wpAny_bind (wpAny_newList ?_ hz)
  show wpAny _ _ _ _ _ { s with heap := h1.push (seqObj "list" vs.toArray 0) }
  refine wpAny_bind (wpAny_holding (wpAny_call_entry_kw slot_list_sort ⟨_, Heap.get?_push_size _ rfl, rfl⟩ entry_list_sort ?_ (args_list_sort _)))
  refine wpAny_mono (h h1 k1 _) (fun f s' hf => ?_) fun _ _ e => e
  obtain ⟨rfl, hq⟩ := hf
  exact ⟨_, rfl, wpAny_pure ⟨_, rfl, hq⟩⟩
theorem sorted_seq {l : Addr} {T : String} {o : Obj} {vs : List Value} {n : Nat} {ds : List PyData} {R : Value → PyData → Prop} {Q : Value → Shared → Prop} (hT : T = "list" ∨ T = "tuple") (ho : s.heap.get? l = some o) (hc : o.cls = .type T) (hd : o.data = .seq vs.toArray n) (hz : vs.length ≤ sizeLine)
    (er : EachIs R vs ds) (rr : EachIs (fun v d => ∃ as, Reads s.heap v d as) vs ds) (hal : AllAlike ds) (hk : Sortable ds) (hu : ∀ d, d ∈ ds → A.units + 2 + d.depth < cLine)
    (h : ∀ (h1 h' : Heap) (out : List Value) (n : Nat), (∀ b o, s.heap.get? b = some o → h1.get? b = some o) → (∀ b o, h1.get? b = some o → h'.get? b = some o) → h'.get? h1.objs.size = some (seqObj "list" out.toArray n) → out.length = ds.length → EachIs R out (ds.mergeSort (dataLe false id)) → Q (.ref h1.objs.size) { s with heap := h' }) :
    wpAny (model prog w) A (call (.builtin "sorted") [.ref l]) Q E s := by
  refine sorted_go hT ho hc hd hz fun h1 k1 E' => ?_
  have hat : (h1.push (seqObj "list" vs.toArray 0)).get? h1.objs.size = some (seqObj "list" vs.toArray 0) := Heap.get?_push_size _ rfl
  have old : ∀ b o, h1.get? b = some o → (sortingHeap (h1.push (seqObj "list" vs.toArray 0)) h1.objs.size vs).get? b = some o := fun b o e => sortingHeap_old (Nat.ne_of_lt (Heap.lt_size e)) (Heap.get?_push_of_some _ e)
  have rr' : EachIs (fun v b => ∃ as, Reads (sortingHeap (h1.push (seqObj "list" vs.toArray 0)) h1.objs.size vs) v (id b) as) vs ds := rr.mono fun _ _ ⟨as, r⟩ => ⟨as, PyProof.Rows.Reads.keeps (fun b o e => old b o (k1 b o e)) r⟩
  have hal' : AllAlike (ds.map id) := by rw [List.map_id]; exact hal
  refine list_sort_vals (κ := dataKind (sortingHeap (h1.push (seqObj "list" vs.toArray 0)) h1.objs.size vs) (ds.map id)) hat ?_ hz ⟨rfl, ?_⟩
  · rw [List.map_id]
    exact SortsAt.data (s := { s with heap := sortingHeap (h1.push (seqObj "list" vs.toArray 0)) h1.objs.size vs }) rr' hal hk hu
  · obtain ⟨e, he⟩ := sortedHeap_at (out := (sortVals (dataKind (sortingHeap (h1.push (seqObj "list" vs.toArray 0)) h1.objs.size vs) (ds.map id)) false vs vs).toArray) hat
    refine h h1 _ _ e k1 (fun b o q => ?_) he ?_ (sortVals_data false er rr' hal')
    · have hb := Heap.lt_size q
      rw [sortedHeap_old (Nat.ne_of_lt hb) (by rw [size_push']; exact Nat.lt_succ_of_lt hb)]
      exact Heap.get?_push_of_some _ q
    · rw [sortVals_length false rfl]; exact er.length
end
end Pm
namespace Pm
open PySem PySem.Spec PyProof.Rows L2
/-! ### readings -/
section
variable (K : PySem.W.Frag) (g : G)
def LE (m : SS → O R) (sl : List SV) : TE := fun σ H Q => ∃ F ss r ss', m ss = some (r, ss') ∧ Rp K g F ss sl σ H ∧ ∀ x H' F', Gr g F F' H H' → Rp K g F' ss' sl σ H' → RR K g F' H H' r x → Q x H'
def LT (m : SS → O Bool) (sl : List SV) : TT := fun σ H Q => ∃ F ss r ss', m ss = some (r, ss') ∧ Rp K g F ss sl σ H ∧ ∀ H' F', Gr g F F' H H' → Rp K g F' ss' sl σ H' → Q r H'
def LA (m : SS → O (List R)) (sl : List SV) : TA := fun σ H Q => ∃ F ss r ss', m ss = some (r, ss') ∧ Rp K g F ss sl σ H ∧ ∀ xs H' F', Gr g F F' H H' → Rp K g F' ss' sl σ H' → RRs K g F' H H' r xs → Q xs H'
/-- a display's items -/
def LX (m : SS → O (List D)) (sl : List SV) : TA := fun σ H Q => ∃ F ss r ss', m ss = some (r, ss') ∧ Rp K g F ss sl σ H ∧ ∀ xs H' F', Gr g F F' H H' → Rp K g F' ss' sl σ H' → FDs K F' H' xs r → Q xs H'
end
theorem PE.imp {X : Cx} {e : Expr} {t t' : TE} (h : PE X e t) (i : ∀ σ H Q, t' σ H Q → t σ H Q) : PE X e t' := ⟨fun pins s σ H Q I q => h.run pins s σ H Q I (i σ H Q q)⟩
theorem PT.imp {X : Cx} {e : Expr} {t t' : TT} (h : PT X e t) (i : ∀ σ H Q, t' σ H Q → t σ H Q) : PT X e t' := ⟨fun pins s σ H Q I q => h.run pins s σ H Q I (i σ H Q q)⟩
theorem PA.imp {X : Cx} {e : List Expr} {t t' : TA} (h : PA X e t) (i : ∀ σ H Q, t' σ H Q → t σ H Q) : PA X e t' := ⟨fun pos pins s σ H Q I q => h.run pos pins s σ H Q I (i σ H Q q)⟩
theorem bind_of {α β : Type} {x : Option α} {f : α → Option β} {r : β} (e : x.bind f = some r) : ∃ a, x = some a ∧ f a = some r := Option.bind_eq_some_iff.mp e
theorem map_of {α β : Type} {x : Option α} {f : α → β} {r : β} (e : x.map f = some r) : ∃ a, x = some a ∧ f a = r := Option.map_eq_some_iff.mp e
theorem O.f_of {α β : Type} {f : α → Option β} {x : O α} {b : β} {ss : SS} (e : x.f f = some (b, ss)) : ∃ a, x = some (a, ss) ∧ f a = some b := by
  obtain ⟨⟨a, s⟩, e1, e2⟩ := bind_of e
  obtain ⟨c, e3, e4⟩ := map_of e2
  cases e4
  exact ⟨a, e1, e3⟩
section
variable {K : PySem.W.Frag} {g : G} {sl : List SV} {σ : L2.St} {H : Hp} {Q : VK} {ma mb mc m : SS → O R}
theorem LE.two {f : D → D → Option R} (hm : ∀ ss, m ss = (toD (ma ss)).bind fun p => (toD (mb p.2)).bind fun q => (f p.1 q.1).map fun r => (r, q.2)) (h : LE K g m sl σ H Q) :
    tOp (rB K g f) (LE K g ma sl) (LE K g mb sl) σ H Q := by
  obtain ⟨F, ss, r, ss', e, rp, k⟩ := h
  rw [hm] at e
  obtain ⟨⟨da, s1⟩, e1, e⟩ := bind_of e
  obtain ⟨⟨db, s2⟩, e2, e⟩ := bind_of e
  obtain ⟨r', e3, e4⟩ := map_of e
  cases e4
  obtain ⟨ra, ea, e1⟩ := O.f_of e1
  obtain ⟨rb, eb, e2⟩ := O.f_of e2
  exact ⟨F, ss, ra, s1, ea, rp, fun x H1 F1 g1 p1 h1 => ⟨F1, s1, rb, _, eb, p1, fun y H2 F2 g2 p2 h2 =>
    ⟨F2, _, da, db, r, p2.at, (h1.keep g2 p1.fC g1).rd e1, h2.rd e2, e3, fun z H3 F3 g3 s3 h3 => k z H3 F3 (g1.trans (g2.trans g3)) (p2.step g3 s3) (h3.early (g1.trans g2))⟩⟩⟩
theorem LE.cmp {f : D → D → Option Bool} (hm : ∀ ss, m ss = (toD (ma ss)).bind fun p => (toD (mb p.2)).bind fun q => (f p.1 q.1).map fun r => (bl r, q.2)) (h : LE K g m sl σ H Q) :
    tOp (rC K g f) (LE K g ma sl) (LE K g mb sl) σ H Q := by
  obtain ⟨F, ss, r, ss', e, rp, k⟩ := h
  rw [hm] at e
  obtain ⟨⟨da, s1⟩, e1, e⟩ := bind_of e
  obtain ⟨⟨db, s2⟩, e2, e⟩ := bind_of e
  obtain ⟨r', e3, e4⟩ := map_of e
  cases e4
  obtain ⟨ra, ea, e1⟩ := O.f_of e1
  obtain ⟨rb, eb, e2⟩ := O.f_of e2
  exact ⟨F, ss, ra, s1, ea, rp, fun x H1 F1 g1 p1 h1 => ⟨F1, s1, rb, _, eb, p1, fun y H2 F2 g2 p2 h2 =>
    ⟨F2, _, da, db, r', p2.at, (h1.keep g2 p1.fC g1).rd e1, h2.rd e2, e3, fun z H3 F3 g3 s3 h3 => k z H3 F3 (g1.trans (g2.trans g3)) (p2.step g3 s3) (h3.early (g1.trans g2))⟩⟩⟩
/-- a value in, a value out -/
def rU1 (K : PySem.W.Frag) (g : G) (f : D → Option R) : V → Hp → VK → Prop := fun x H Q => ∃ F ss dx r, At K g F ss H ∧ RD K F H x dx ∧ f dx = some r ∧ Kt K g F ss H r Q
theorem LE.one {f : D → Option R} (hm : ∀ ss, m ss = (toD (ma ss)).f f) (h : LE K g m sl σ H Q) : tUn (rU1 K g f) (LE K g ma sl) σ H Q := by
  obtain ⟨F, ss, r, ss', e, rp, k⟩ := h
  rw [hm] at e
  obtain ⟨da, e1, e2⟩ := O.f_of e
  obtain ⟨ra, ea, e1⟩ := O.f_of e1
  exact ⟨F, ss, ra, _, ea, rp, fun x H1 F1 g1 p1 h1 => ⟨F1, _, da, r, p1.at, h1.rd e1, e2, fun z H3 F3 g3 s3 h3 => k z H3 F3 (g1.trans g3) (p1.step g3 s3) (h3.early g1)⟩⟩
theorem asB_of {r : R} {b : Bool} (e : asB r = some b) : r = bl b := by
  cases r with
  | v d => cases d <;> first | (cases e; rfl) | (simp [asB] at e)
  | _ => simp [asB] at e
theorem RR.bl {F : Addr → Prop} {H0 H : Hp} {b : Bool} {x : V} (h : RR K g F H0 H (Pm.bl b) x) : x = .bl b := by
  have h : FD K F H x (.bool b) := h
  cases h; rfl
/-- a test by its value -/
theorem LT.val (h : LT K g (fun ss => toB (ma ss)) sl σ H Qb) : tB (LE K g ma sl) σ H Qb := by
  obtain ⟨F, ss, r, ss', e, rp, k⟩ := h
  obtain ⟨ra, ea, e1⟩ := O.f_of e
  obtain rfl := asB_of e1
  exact ⟨F, ss, _, _, ea, rp, fun x H1 F1 g1 p1 h1 => ⟨r, h1.bl, k H1 F1 g1 p1⟩⟩
theorem LT.and (h : LT K g (fun ss => toB (m ss)) sl σ H Qb) (hm : ∀ ss, m ss = (toB (ma ss)).bind fun p => if p.1 then (toB (mb p.2)).bind fun q => some (Pm.bl q.1, q.2) else some (Pm.bl false, p.2)) :
    tAnd (LT K g (fun ss => toB (ma ss)) sl) (LT K g (fun ss => toB (mb ss)) sl) σ H Qb := by
  obtain ⟨F, ss, r, ss', e, rp, k⟩ := h
  obtain ⟨ra, ea, e1⟩ := O.f_of e
  obtain rfl := asB_of e1
  rw [hm] at ea
  obtain ⟨⟨c, s1⟩, ec, ea⟩ := bind_of ea
  refine ⟨F, ss, c, s1, ec, rp, fun H1 F1 g1 p1 => ?_⟩
  cases c with
  | true =>
    rw [if_pos rfl] at ea ⊢
    obtain ⟨⟨d, s2⟩, ed, ea⟩ := bind_of ea
    cases ea
    exact ⟨F1, s1, _, _, ed, p1, fun H2 F2 g2 p2 => k H2 F2 (g1.trans g2) p2⟩
  | false =>
    rw [if_neg Bool.false_ne_true] at ea ⊢
    cases ea
    exact k H1 F1 g1 p1
theorem LT.or (h : LT K g (fun ss => toB (m ss)) sl σ H Qb) (hm : ∀ ss, m ss = (toB (ma ss)).bind fun p => if p.1 then some (Pm.bl true, p.2) else (toB (mb p.2)).bind fun q => some (Pm.bl q.1, q.2)) :
    tOr (LT K g (fun ss => toB (ma ss)) sl) (LT K g (fun ss => toB (mb ss)) sl) σ H Qb := by
  obtain ⟨F, ss, r, ss', e, rp, k⟩ := h
  obtain ⟨ra, ea, e1⟩ := O.f_of e
  obtain rfl := asB_of e1
  rw [hm] at ea
  obtain ⟨⟨c, s1⟩, ec, ea⟩ := bind_of ea
  refine ⟨F, ss, c, s1, ec, rp, fun H1 F1 g1 p1 => ?_⟩
  cases c with
  | false =>
    rw [if_neg Bool.false_ne_true] at ea ⊢
    obtain ⟨⟨d, s2⟩, ed, ea⟩ := bind_of ea
    cases ea
    exact ⟨F1, s1, _, _, ed, p1, fun H2 F2 g2 p2 => k H2 F2 (g1.trans g2) p2⟩
  | true =>
    rw [if_pos rfl] at ea ⊢
    cases ea
    exact k H1 F1 g1 p1
theorem LT.not (h : LT K g (fun ss => toB (m ss)) sl σ H Qb) (hm : ∀ ss, m ss = (toB (ma ss)).bind fun p => some (Pm.bl (!p.1), p.2)) :
    tNot (LT K g (fun ss => toB (ma ss)) sl) σ H Qb := by
  obtain ⟨F, ss, r, ss', e, rp, k⟩ := h
  obtain ⟨ra, ea, e1⟩ := O.f_of e
  obtain rfl := asB_of e1
  rw [hm] at ea
  obtain ⟨⟨c, s1⟩, ec, ea⟩ := bind_of ea
  cases ea
  exact ⟨F, ss, c, s1, ec, rp, fun H1 F1 g1 p1 => k H1 F1 g1 p1⟩
theorem LE.and (h : LE K g m sl σ H Q) (hm : ∀ ss, m ss = (toB (ma ss)).bind fun p => if p.1 then (toB (mb p.2)).bind fun q => some (Pm.bl q.1, q.2) else some (Pm.bl false, p.2)) :
    tAndV (LE K g ma sl) (LE K g mb sl) σ H Q := by
  obtain ⟨F, ss, r, ss', e, rp, k⟩ := h
  rw [hm] at e
  obtain ⟨⟨c, s1⟩, ec, e⟩ := bind_of e
  obtain ⟨ra, ea, e1⟩ := O.f_of ec
  obtain rfl := asB_of e1
  refine ⟨F, ss, _, s1, ea, rp, fun x H1 F1 g1 p1 h1 => ⟨c, h1.bl, ?_⟩⟩
  cases c with
  | true =>
    rw [if_pos rfl] at e ⊢
    obtain ⟨⟨d, s2⟩, ed, e⟩ := bind_of e
    obtain ⟨rb, eb, e2⟩ := O.f_of ed
    obtain rfl := asB_of e2
    cases e
    exact ⟨F1, s1, _, _, eb, p1, fun y H2 F2 g2 p2 h2 => k y H2 F2 (g1.trans g2) p2 (h2.early g1)⟩
  | false =>
    rw [if_neg Bool.false_ne_true] at e ⊢
    cases e
    exact k _ H1 F1 g1 p1 (FD.bl false)
theorem LE.or (h : LE K g m sl σ H Q) (hm : ∀ ss, m ss = (toB (ma ss)).bind fun p => if p.1 then some (Pm.bl true, p.2) else (toB (mb p.2)).bind fun q => some (Pm.bl q.1, q.2)) :
    tOrV (LE K g ma sl) (LE K g mb sl) σ H Q := by
  obtain ⟨F, ss, r, ss', e, rp, k⟩ := h
  rw [hm] at e
  obtain ⟨⟨c, s1⟩, ec, e⟩ := bind_of e
  obtain ⟨ra, ea, e1⟩ := O.f_of ec
  obtain rfl := asB_of e1
  refine ⟨F, ss, _, s1, ea, rp, fun x H1 F1 g1 p1 h1 => ⟨c, h1.bl, ?_⟩⟩
  cases c with
  | false =>
    rw [if_neg Bool.false_ne_true] at e ⊢
    obtain ⟨⟨d, s2⟩, ed, e⟩ := bind_of e
    obtain ⟨rb, eb, e2⟩ := O.f_of ed
    obtain rfl := asB_of e2
    cases e
    exact ⟨F1, s1, _, _, eb, p1, fun y H2 F2 g2 p2 h2 => k y H2 F2 (g1.trans g2) p2 (h2.early g1)⟩
  | true =>
    rw [if_pos rfl] at e ⊢
    cases e
    exact k _ H1 F1 g1 p1 (FD.bl true)
theorem LE.not (h : LE K g m sl σ H Q) (hm : ∀ ss, m ss = (toB (ma ss)).bind fun p => some (Pm.bl (!p.1), p.2)) : tNotV (LE K g ma sl) σ H Q := by
  obtain ⟨F, ss, r, ss', e, rp, k⟩ := h
  rw [hm] at e
  obtain ⟨⟨c, s1⟩, ec, e⟩ := bind_of e
  obtain ⟨ra, ea, e1⟩ := O.f_of ec
  obtain rfl := asB_of e1
  cases e
  exact ⟨F, ss, _, _, ea, rp, fun x H1 F1 g1 p1 h1 => ⟨c, h1.bl, k _ H1 F1 g1 p1 (FD.bl _)⟩⟩
theorem LE.ife (h : LE K g m sl σ H Q) (hm : ∀ ss, m ss = (toB (mc ss)).bind fun p => if p.1 then ma p.2 else mb p.2) : tIf (LT K g (fun ss => toB (mc ss)) sl) (LE K g ma sl) (LE K g mb sl) σ H Q := by
  obtain ⟨F, ss, r, ss', e, rp, k⟩ := h
  rw [hm] at e
  obtain ⟨⟨c, s1⟩, ec, e⟩ := bind_of e
  refine ⟨F, ss, c, s1, ec, rp, fun H1 F1 g1 p1 => ?_⟩
  cases c with
  | true =>
    rw [if_pos rfl] at e ⊢
    exact ⟨F1, s1, _, _, e, p1, fun y H2 F2 g2 p2 h2 => k y H2 F2 (g1.trans g2) p2 (h2.early g1)⟩
  | false =>
    rw [if_neg Bool.false_ne_true] at e ⊢
    exact ⟨F1, s1, _, _, e, p1, fun y H2 F2 g2 p2 h2 => k y H2 F2 (g1.trans g2) p2 (h2.early g1)⟩
theorem LT.ife (h : LT K g (fun ss => toB (m ss)) sl σ H Qb) (hm : ∀ ss, m ss = (toB (mc ss)).bind fun p => if p.1 then ma p.2 else mb p.2) :
    LT K g (fun ss => toB (mc ss)) sl σ H (fun b H1 => if b = true then LT K g (fun ss => toB (ma ss)) sl σ H1 Qb else LT K g (fun ss => toB (mb ss)) sl σ H1 Qb) := by
  obtain ⟨F, ss, r, ss', e, rp, k⟩ := h
  obtain ⟨ra, ea, e1⟩ := O.f_of e
  rw [hm] at ea
  obtain ⟨⟨c, s1⟩, ec, ea⟩ := bind_of ea
  refine ⟨F, ss, c, s1, ec, rp, fun H1 F1 g1 p1 => ?_⟩
  cases c with
  | true =>
    rw [if_pos rfl] at ea ⊢
    exact ⟨F1, s1, _, _, show (ma s1).f asB = _ by rw [ea]; show (asB ra).map _ = _; rw [e1]; rfl, p1, fun H2 F2 g2 p2 => k H2 F2 (g1.trans g2) p2⟩
  | false =>
    rw [if_neg Bool.false_ne_true] at ea ⊢
    exact ⟨F1, s1, _, _, show (mb s1).f asB = _ by rw [ea]; show (asB ra).map _ = _; rw [e1]; rfl, p1, fun H2 F2 g2 p2 => k H2 F2 (g1.trans g2) p2⟩
theorem LE.chain {f f' : D → D → Option Bool} (h : LE K g m sl σ H Q) (hm : ∀ ss, m ss = (toD (ma ss)).bind fun p => (toD (mb p.2)).bind fun q => (f p.1 q.1).bind fun r =>
      if r then (toD (mc q.2)).bind fun t => (f' q.1 t.1).map fun r => (Pm.bl r, t.2) else some (Pm.bl false, q.2)) :
    tChain (rC K g f) (rC K g f') (LE K g ma sl) (LE K g mb sl) (LE K g mc sl) σ H Q := by
  obtain ⟨F, ss, r, ss', e, rp, k⟩ := h
  rw [hm] at e
  obtain ⟨⟨da, s1⟩, e1, e⟩ := bind_of e
  obtain ⟨⟨db, s2⟩, e2, e⟩ := bind_of e
  obtain ⟨c, e3, e⟩ := bind_of e
  obtain ⟨ra, ea, e1⟩ := O.f_of e1
  obtain ⟨rb, eb, e2⟩ := O.f_of e2
  refine ⟨F, ss, ra, s1, ea, rp, fun x H1 F1 g1 p1 h1 => ⟨F1, s1, rb, _, eb, p1, fun y H2 F2 g2 p2 h2 =>
    ⟨F2, _, da, db, c, p2.at, (h1.keep g2 p1.fC g1).rd e1, h2.rd e2, e3, fun z H3 F3 g3 s3 h3 => ⟨c, h3.bl, ?_⟩⟩⟩⟩
  have p3 := p2.step g3 s3
  have h2' := h2.keep g3 p2.fC g2
  cases c with
  | false =>
    rw [if_neg Bool.false_ne_true] at e ⊢
    cases e
    exact k _ H3 F3 (g1.trans (g2.trans g3)) p3 (FD.bl false)
  | true =>
    rw [if_pos rfl] at e ⊢
    obtain ⟨⟨dc, s4⟩, e4, e⟩ := bind_of e
    obtain ⟨r', e5, e6⟩ := map_of e
    cases e6
    obtain ⟨rc, ec, e4⟩ := O.f_of e4
    exact ⟨F3, s2, rc, _, ec, p3, fun w H4 F4 g4 p4 h4 => ⟨F4, _, db, dc, r', p4.at, (h2'.keep g4 p3.fC (g2.trans g3)).rd e2, h4.rd e4, e5, fun u H5 F5 g5 s5 h5 =>
      k u H5 F5 (g1.trans (g2.trans (g3.trans (g4.trans g5)))) (p4.step g5 s5) (h5.early (g1.trans (g2.trans (g3.trans g4))))⟩⟩
/-- arguments -/
theorem LA.nil (h : LA K g (fun ss => some ([], ss)) sl σ H Qs) : tNil σ H Qs := by
  obtain ⟨F, ss, r, ss', e, rp, k⟩ := h
  cases e
  exact k [] H F rp.gr rp .nil
theorem RRs.keep {F F' F1 : Addr → Prop} {H0 H H' : Hp} : ∀ {rs : List R} {xs : List V}, RRs K g F H0 H rs xs → Gr g F F' H H' → ¬ F g.C → Gr g F1 F H0 H → RRs K g F' H0 H' rs xs
  | _, _, .nil, _, _, _ => .nil
  | _, _, .cons h t, a, b, c => .cons (h.keep a b c) (RRs.keep t a b c)
theorem RRs.early {F F1 F2 : Addr → Prop} {H0 H1 H : Hp} : ∀ {rs : List R} {xs : List V}, RRs K g F H1 H rs xs → Gr g F1 F2 H0 H1 → RRs K g F H0 H rs xs
  | _, _, .nil, _ => .nil
  | _, _, .cons h t, a => .cons (h.early a) (RRs.early t a)
theorem LA.cons {ms m' : SS → O (List R)} (h : LA K g m' sl σ H Qs) (hm : ∀ ss, m' ss = (ma ss).bind fun p => (ms p.2).bind fun q => some (p.1 :: q.1, q.2)) : tCons (LE K g ma sl) (LA K g ms sl) σ H Qs := by
  obtain ⟨F, ss, r, ss', e, rp, k⟩ := h
  rw [hm] at e
  obtain ⟨⟨ra, s1⟩, e1, e⟩ := bind_of e
  obtain ⟨⟨rs, s2⟩, e2, e⟩ := bind_of e
  cases e
  exact ⟨F, ss, ra, s1, e1, rp, fun x H1 F1 g1 p1 h1 => ⟨F1, s1, rs, _, e2, p1, fun xs H2 F2 g2 p2 h2 => k _ H2 F2 (g1.trans g2) p2 (.cons (h1.keep g2 p1.fC g1) (h2.early g1))⟩⟩
/-- a display's items -/
theorem LX.nil (h : LX K g (fun ss => O.f dispR (some (([] : List R), ss))) sl σ H Qs) : tNil σ H Qs := by
  obtain ⟨F, ss, r, ss', e, rp, k⟩ := h
  obtain ⟨a, e1, e2⟩ := O.f_of e
  cases e1
  cases e2
  exact k [] H F rp.gr rp .nil
theorem LX.cons {ms m' : SS → O (List R)} (h : LX K g (fun ss => (m' ss).f dispR) sl σ H Qs) (hm : ∀ ss, m' ss = (ma ss).bind fun p => (ms p.2).bind fun q => some (p.1 :: q.1, q.2)) :
    tCons (LE K g ma sl) (LX K g (fun ss => (ms ss).f dispR) sl) σ H Qs := by
  obtain ⟨F, ss, r, ss', e, rp, k⟩ := h
  obtain ⟨rr, e, e0⟩ := O.f_of e
  rw [hm] at e
  obtain ⟨⟨ra, s1⟩, e1, e⟩ := bind_of e
  obtain ⟨⟨rs, s2⟩, e2, e⟩ := bind_of e
  cases e
  refine ⟨F, ss, ra, s1, e1, rp, fun x H1 F1 g1 p1 h1 => ?_⟩
  have e3 : dispR (ra :: rs) = (esc ra).bind fun d => (dispR rs).map (d :: ·) := by
    cases ra with
    | st xs => exact h1.elim
    | _ => rfl
  have e0 : dispR (ra :: rs) = some r := e0
  rw [e3] at e0
  obtain ⟨d, e4, e5⟩ := bind_of e0
  obtain ⟨ds, e6, e7⟩ := map_of e5
  cases e7
  obtain ⟨F1', g1', f1⟩ := h1.esc e4 g1
  have p1' := rp.step g1' p1.src
  exact ⟨F1', s1, ds, _, by show (ms s1).f dispR = _; rw [e2]; show (dispR rs).map _ = _; rw [e6]; rfl, p1', fun xs H2 F2 g2 p2 h2 => k _ H2 F2 (g1'.trans g2) p2 (.cons (f1.keep (g2.ke p1'.fC)) h2)⟩
theorem LX.star {ms m' : SS → O (List R)} (h : LX K g (fun ss => (m' ss).f dispR) sl σ H Qs) (hm : ∀ ss, m' ss = ((toI (ma ss)).bind fun p => some (R.st p.1, p.2)).bind fun p => (ms p.2).bind fun q => some (p.1 :: q.1, q.2)) :
    StX.tStar K (LE K g ma sl) (LX K g (fun ss => (ms ss).f dispR) sl) σ H Qs := by
  obtain ⟨F, ss, r, ss', e, rp, k⟩ := h
  obtain ⟨rr, e, e0⟩ := O.f_of e
  rw [hm] at e
  obtain ⟨⟨ra, s1⟩, e1, e⟩ := bind_of e
  obtain ⟨⟨rs, s2⟩, e2, e⟩ := bind_of e
  cases e
  obtain ⟨⟨is, s3⟩, e8, e9⟩ := bind_of e1
  cases e9
  obtain ⟨rb, e10, e11⟩ := O.f_of e8
  obtain ⟨ds, e6, e7⟩ := map_of (show (dispR rs).map (is ++ ·) = some r from e0)
  cases e7
  refine ⟨F, ss, rb, _, e10, rp, fun x H1 F1 g1 p1 h1 => ?_⟩
  have e12 : (rd rb).bind seqOf = some is := by
    cases rb with
    | it xs => exact h1.elim
    | _ => exact e11
  obtain ⟨d, e13, e14⟩ := bind_of e12
  obtain ⟨a, vs, rfl, hs, hf⟩ := (h1.rd e13).seq e14
  exact ⟨a, vs, rfl, hs.symm, F1, _, ds, _, by show (ms _).f dispR = _; rw [e2]; show (dispR rs).map _ = _; rw [e6]; rfl, p1, fun xs H2 F2 g2 p2 h2 => k _ H2 F2 (g1.trans g2) p2 ((hf.keep (g2.ke p1.fC)).append h2)⟩
theorem LX.tup {m' : SS → O (List R)} (h : LE K g m sl σ H Q) (hm : ∀ ss, m ss = (toX (m' ss)).bind fun p => some (.v (.tuple p.1), p.2)) : tTup (LX K g (fun ss => (m' ss).f dispR) sl) σ H Q := by
  obtain ⟨F, ss, r, ss', e, rp, k⟩ := h
  rw [hm] at e
  obtain ⟨⟨ds, s1⟩, e1, e⟩ := bind_of e
  cases e
  obtain ⟨⟨ds', s2⟩, e2, e3⟩ := bind_of e1
  split at e3 <;> cases e3
  rename_i hl
  exact ⟨F, ss, ds, _, e2, rp, fun xs H1 F1 g1 p1 h1 => ⟨by rw [h1.length, SL_eq]; exact hl, fun p hp =>
    Kt.tup p1.at (fun z H2 F2 g2 s2 h2 => k z H2 F2 (g1.trans g2) (p1.step g2 s2) (h2.early g1)) h1 hp⟩⟩
theorem LX.lst {m' : SS → O (List R)} (h : LE K g m sl σ H Q) (hm : ∀ ss, m ss = (toX (m' ss)).bind fun p => some (.fr p.1, p.2)) : tLst (LX K g (fun ss => (m' ss).f dispR) sl) σ H Q := by
  obtain ⟨F, ss, r, ss', e, rp, k⟩ := h
  rw [hm] at e
  obtain ⟨⟨ds, s1⟩, e1, e⟩ := bind_of e
  cases e
  obtain ⟨⟨ds', s2⟩, e2, e3⟩ := bind_of e1
  split at e3 <;> cases e3
  rename_i hl
  exact ⟨F, ss, ds, _, e2, rp, fun xs H1 F1 g1 p1 h1 => ⟨by rw [h1.length, SL_eq]; exact hl, fun p hp =>
    Kt.lst p1.at (fun z H2 F2 g2 s2 h2 => k z H2 F2 (g1.trans g2) (p1.step g2 s2) (h2.early g1)) h1 hp⟩⟩
/-- a slot -/
theorem RS.rr {s : SV} {F : Addr → Prop} {r : R} {x : Option V} (h : RS K g F H s x) (e : slR s = some r) : ∃ v, x = some v ∧ RR K g F H H r v := by
  cases s with
  | un => cases e
  | v d => cases e; exact h
  | own xs => cases e; obtain ⟨a, vs, e1, h1, h2, h3, h4, h5⟩ := h; exact ⟨_, e1, a, vs, rfl, h1, h2, h4, h5, h3⟩
  | lock xs => cases e; obtain ⟨a, vs, e1, h1, h2, h3, h4, h5⟩ := h; exact ⟨_, e1, a, vs, rfl, h1, h2, h4, h5, h3⟩
  | dk kvs => cases e; obtain ⟨a, vvs, e1, h1, h2, h3, h4⟩ := h; exact ⟨_, e1, a, vvs, rfl, h1, h2, h3⟩
  | dt kvs => cases e; obtain ⟨a, vvs, e1, h1, h2, h3, h4⟩ := h; exact ⟨_, e1, a, vvs, rfl, h1, h2, h3⟩
  | src => cases e; exact ⟨_, h, rfl⟩
theorem LE.loc {i : Nat} (h : LE K g m sl σ H Q) (hm : ∀ ss, m ss = (getR sl i).map fun r => (r, ss)) : tVar i σ H Q := by
  obtain ⟨F, ss, r, ss', e, rp, k⟩ := h
  rw [hm] at e
  obtain ⟨r', e1, e2⟩ := map_of e
  cases e2
  obtain ⟨s, e3, e4⟩ := bind_of e1
  obtain ⟨x, e5, h1⟩ := rp.slot i s e3
  obtain ⟨v, rfl, h2⟩ := h1.rr e4
  exact ⟨v, e5, k v H F rp.gr rp h2⟩
theorem LE.lit {v : V} {d : D} (h : LE K g m sl σ H Q) (hm : ∀ ss, m ss = some (.v d, ss)) (hd : ∀ F, FD K F H v d) : tC v σ H Q := by
  obtain ⟨F, ss, r, ss', e, rp, k⟩ := h
  rw [hm] at e
  cases e
  exact k v H F rp.gr rp (hd F)
/-- a built-in's arguments -/
def rAs (K : PySem.W.Frag) (g : G) (f : List D → Option R) : List V → Hp → VK → Prop := fun vs H Q => ∃ F ss ds r, At K g F ss H ∧ Paired (RD K F H) vs ds ∧ f ds = some r ∧ Kt K g F ss H r Q
theorem RRs.rds {F : Addr → Prop} {H0 : Hp} : ∀ {rs : List R} {xs : List V} {ds : List D}, RRs K g F H0 H rs xs → rds rs = some ds → Paired (RD K F H) xs ds
  | _, _, _, .nil, e => by cases e; exact .nil
  | _, _, _, .cons h t, e => by
    obtain ⟨a, e1, e2⟩ := bind_of e
    obtain ⟨b, e3, e4⟩ := map_of e2
    cases e4
    exact .cons (h.rd e1) (RRs.rds t e3)
theorem LE.bi {ms : SS → O (List R)} {f : List D → Option R} (h : LE K g m sl σ H Q) (hm : ∀ ss, m ss = (toDs (ms ss)).f f) : tCB (rAs K g f) (LA K g ms sl) σ H Q := by
  obtain ⟨F, ss, r, ss', e, rp, k⟩ := h
  rw [hm] at e
  obtain ⟨ds, e1, e2⟩ := O.f_of e
  obtain ⟨rs, e3, e4⟩ := O.f_of e1
  exact ⟨F, ss, rs, _, e3, rp, fun xs H1 F1 g1 p1 h1 => ⟨F1, _, ds, r, p1.at, h1.rds e4, e2, fun z H3 F3 g3 s3 h3 => k z H3 F3 (g1.trans g3) (p1.step g3 s3) (h3.early g1)⟩⟩
end
end Pm
namespace Pm
open PySem PySem.Spec PyProof.Rows L2
section
variable {K : PySem.W.Frag} {g : G} {F : Addr → Prop} {H : Hp}
theorem one_of {x : List V} {d : D} (h : Paired (RD K F H) x [d]) : ∃ v, x = [v] ∧ RD K F H v d := by
  cases h with
  | cons a t => cases t; exact ⟨_, rfl, a⟩
theorem two_of {x : List V} {d e : D} (h : Paired (RD K F H) x [d, e]) : ∃ v u, x = [v, u] ∧ RD K F H v d ∧ RD K F H u e := by
  cases h with
  | cons a t =>
    cases t with
    | cons b t => cases t; exact ⟨_, _, rfl, a, b⟩
theorem maxI_mem : ∀ (r : List Int) (m : Int), maxI m r ∈ m :: r
  | [], m => by simp [maxI]
  | x :: r, m => by
    unfold maxI
    split
    · exact List.mem_cons_of_mem _ (maxI_mem r x)
    · rcases List.mem_cons.mp (maxI_mem r m) with h | h
      · rw [h]; exact List.mem_cons_self
      · exact List.mem_cons_of_mem _ (List.mem_cons_of_mem _ h)
theorem maxI_le : ∀ (r : List Int) (m : Int), ∀ y ∈ m :: r, y ≤ maxI m r
  | [], m => by simp [maxI]
  | x :: r, m => by
    intro y hy
    unfold maxI
    split
    · have h := maxI_le r x
      rcases List.mem_cons.mp hy with rfl | hy
      · have := h x List.mem_cons_self; omega
      · exact h y hy
    · have h := maxI_le r m
      rcases List.mem_cons.mp hy with rfl | hy
      · exact h y List.mem_cons_self
      · rcases List.mem_cons.mp hy with rfl | hy
        · have := h m List.mem_cons_self; omega
        · exact h y (List.mem_cons_of_mem _ hy)
theorem minI_mem : ∀ (r : List Int) (m : Int), minI m r ∈ m :: r
  | [], m => by simp [minI]
  | x :: r, m => by
    unfold minI
    split
    · exact List.mem_cons_of_mem _ (minI_mem r x)
    · rcases List.mem_cons.mp (minI_mem r m) with h | h
      · rw [h]; exact List.mem_cons_self
      · exact List.mem_cons_of_mem _ (List.mem_cons_of_mem _ h)
theorem minI_le : ∀ (r : List Int) (m : Int), ∀ y ∈ m :: r, minI m r ≤ y
  | [], m => by simp [minI]
  | x :: r, m => by
    intro y hy
    unfold minI
    split
    · have h := minI_le r x
      rcases List.mem_cons.mp hy with rfl | hy
      · have := h x List.mem_cons_self; omega
      · exact h y hy
    · have h := minI_le r m
      rcases List.mem_cons.mp hy with rfl | hy
      · exact h y List.mem_cons_self
      · rcases List.mem_cons.mp hy with rfl | hy
        · have := h m List.mem_cons_self; omega
        · exact h y (List.mem_cons_of_mem _ hy)
theorem insI_perm (x : Int) : ∀ l, (insI x l).Perm (x :: l)
  | [] => .refl _
  | y :: r => by
    unfold insI
    split
    · exact .refl _
    · exact ((insI_perm x r).cons y).trans (.swap x y r)
theorem sortI_perm : ∀ l, (sortI l).Perm l
  | [] => .refl _
  | x :: r => (insI_perm x _).trans ((sortI_perm r).cons x)
theorem insI_sorted (x : Int) : ∀ l : List Int, l.Pairwise (· ≤ ·) → (insI x l).Pairwise (· ≤ ·)
  | [], _ => by simp [insI]
  | y :: r, h => by
    rw [List.pairwise_cons] at h
    unfold insI
    split
    · rename_i hxy
      refine List.pairwise_cons.mpr ⟨fun z hz => ?_, List.pairwise_cons.mpr h⟩
      rcases List.mem_cons.mp hz with rfl | hz
      · exact hxy
      · exact Int.le_trans hxy (h.1 z hz)
    · rename_i hxy
      refine List.pairwise_cons.mpr ⟨fun z hz => ?_, insI_sorted x r h.2⟩
      rcases List.mem_cons.mp ((insI_perm x r).mem_iff.mp hz) with rfl | hz
      · omega
      · exact h.1 z hz
theorem sortI_sorted : ∀ l : List Int, (sortI l).Pairwise (· ≤ ·)
  | [] => .nil
  | x :: r => insI_sorted x _ (sortI_sorted r)
theorem sorted_eq : ∀ {l m : List Int}, l.Perm m → l.Pairwise (· ≤ ·) → m.Pairwise (· ≤ ·) → l = m
  | [], m, p, _, _ => (List.Perm.nil_eq p)
  | x :: r, [], p, _, _ => by have := p.length_eq; simp at this
  | x :: r, y :: t, p, h1, h2 => by
    rw [List.pairwise_cons] at h1 h2
    have e : x = y := by
      have a : x ∈ y :: t := p.mem_iff.mp List.mem_cons_self
      have b : y ∈ x :: r := p.mem_iff.mpr List.mem_cons_self
      rcases List.mem_cons.mp a with a | a
      · exact a
      · rcases List.mem_cons.mp b with b | b
        · exact b.symm
        · have := h1.1 y b
          have := h2.1 x a
          omega
    subst e
    rw [sorted_eq (List.Perm.cons_inv p) h1.2 h2.2]
end
section
variable {X : Cx} {g : G}
theorem bi_len : CallR X (.builtin "len") (rAs X.K g lenD) := by
  intro pins s σ H vs us Q I rv ⟨F, ss, ds, r, a, h0, e, k⟩
  unfold lenD at e
  split at e
  · cases e
    obtain ⟨v, rfl, h⟩ := one_of h0
    obtain ⟨p, ws, rfl, sp, fp⟩ := h.lst
    exact call_len_seq pins s σ H _ us Q I rv ⟨p, ws, rfl, .inl (.of sp), by rw [fp.length]; exact k.val a (.int _)⟩
  · cases e
    obtain ⟨v, rfl, h⟩ := one_of h0
    obtain ⟨p, ws, rfl, sp, fp⟩ := h.tup
    exact call_len_seq pins s σ H _ us Q I rv ⟨p, ws, rfl, .inr sp, by rw [fp.length]; exact k.val a (.int _)⟩
  · cases e
theorem bi_int : CallR X (.type "int") (rAs X.K g intD) := by
  intro pins s σ H vs us Q I rv ⟨F, ss, ds, r, a, h0, e, k⟩
  unfold intD at e
  split at e
  · cases e
    obtain ⟨v, rfl, h⟩ := one_of h0
    obtain rfl := h.int
    exact call_int1 pins s σ H _ us Q I rv (.inl ⟨_, rfl, k.val a (.int _)⟩)
  · cases e
    obtain ⟨v, rfl, h⟩ := one_of h0
    obtain rfl := h.bool
    exact call_int1 pins s σ H _ us Q I rv (.inr ⟨_, rfl, k.val a (.int _)⟩)
  · cases e
theorem bi_abs : CallR X (.builtin "abs") (rAs X.K g absD) := by
  intro pins s σ H vs us Q I rv ⟨F, ss, ds, r, a, h0, e, k⟩
  unfold absD at e
  split at e
  · cases e
    obtain ⟨v, rfl, h⟩ := one_of h0
    obtain rfl := h.int
    exact call_abs pins s σ H _ us Q I rv ⟨_, rfl, k.val a (.int _)⟩
  · cases e
theorem bi_max2 (hc : X.calm = true) : CallR X (.builtin "max") (rAs X.K g max2D) := by
  intro pins s σ H vs us Q I rv ⟨F, ss, ds, r, a, h0, e, k⟩
  unfold max2D at e
  split at e
  · cases e
    obtain ⟨v, u, rfl, h, h'⟩ := two_of h0
    obtain rfl := h.int
    obtain rfl := h'.int
    exact call_max2 hc pins s σ H _ us Q I rv ⟨_, _, rfl, k.val a (.int _)⟩
  · cases e
theorem bi_min2 (hc : X.calm = true) : CallR X (.builtin "min") (rAs X.K g min2D) := by
  intro pins s σ H vs us Q I rv ⟨F, ss, ds, r, a, h0, e, k⟩
  unfold min2D at e
  split at e
  · cases e
    obtain ⟨v, u, rfl, h, h'⟩ := two_of h0
    obtain rfl := h.int
    obtain rfl := h'.int
    exact call_min2 hc pins s σ H _ us Q I rv ⟨_, _, rfl, k.val a (.int _)⟩
  · cases e
theorem bi_max1 (hc : X.calm = true) : CallR X (.builtin "max") (rAs X.K g max1D) := by
  intro pins s σ H vs us Q I rv ⟨F, ss, ds, r, a, h0, e, k⟩
  unfold max1D at e
  split at e
  · split at e <;> cases e
    rename_i m r e2
    obtain ⟨v, rfl, h⟩ := one_of h0
    obtain ⟨p, ws, rfl, sp, fp⟩ := h.lst
    obtain rfl := fp.ints e2
    refine cr_max hc pins s σ H _ us Q I rv ⟨p, m :: r, rfl, .of sp, by simp, fun n h1 h2 => ?_⟩
    have e3 : n = maxI m r := Int.le_antisymm (maxI_le r m n h1) (h2 _ (maxI_mem r m))
    rw [e3]
    exact k.val a (.int _)
  · cases e
theorem bi_min1 (hc : X.calm = true) : CallR X (.builtin "min") (rAs X.K g min1D) := by
  intro pins s σ H vs us Q I rv ⟨F, ss, ds, r, a, h0, e, k⟩
  unfold min1D at e
  split at e
  · split at e <;> cases e
    rename_i m r e2
    obtain ⟨v, rfl, h⟩ := one_of h0
    obtain ⟨p, ws, rfl, sp, fp⟩ := h.lst
    obtain rfl := fp.ints e2
    refine cr_min hc pins s σ H _ us Q I rv ⟨p, m :: r, rfl, .of sp, by simp, fun n h1 h2 => ?_⟩
    have e3 : n = minI m r := Int.le_antisymm (h2 _ (minI_mem r m)) (minI_le r m n h1)
    rw [e3]
    exact k.val a (.int _)
  · cases e
theorem bi_sum (hc : X.calm = true) : CallR X (.builtin "sum") (rAs X.K g sumD) := by
  intro pins s σ H vs us Q I rv ⟨F, ss, ds, r, a, h0, e, k⟩
  unfold sumD at e
  split at e
  · obtain ⟨is, e2, e3⟩ := map_of e
    cases e3
    obtain ⟨v, rfl, h⟩ := one_of h0
    obtain ⟨p, ws, rfl, sp, fp⟩ := h.lst
    obtain rfl := fp.ints e2
    exact cr_sum hc pins s σ H _ us Q I rv ⟨p, is, rfl, .of sp, k.val a (.int _)⟩
  · cases e
theorem bi_all (hc : X.calm = true) : CallR X (.builtin "all") (rAs X.K g allD) := by
  intro pins s σ H vs us Q I rv ⟨F, ss, ds, r, a, h0, e, k⟩
  unfold allD at e
  split at e
  · obtain ⟨is, e2, e3⟩ := map_of e
    cases e3
    obtain ⟨v, rfl, h⟩ := one_of h0
    obtain ⟨p, ws, rfl, sp, fp⟩ := h.lst
    obtain rfl := fp.bools e2
    exact cr_all hc pins s σ H _ us Q I rv ⟨p, is, rfl, .of sp, k.val a (.bl _)⟩
  · cases e
theorem bi_any (hc : X.calm = true) : CallR X (.builtin "any") (rAs X.K g anyD) := by
  intro pins s σ H vs us Q I rv ⟨F, ss, ds, r, a, h0, e, k⟩
  unfold anyD at e
  split at e
  · obtain ⟨is, e2, e3⟩ := map_of e
    cases e3
    obtain ⟨v, rfl, h⟩ := one_of h0
    obtain ⟨p, ws, rfl, sp, fp⟩ := h.lst
    obtain rfl := fp.bools e2
    exact cr_any hc pins s σ H _ us Q I rv ⟨p, is, rfl, .of sp, k.val a (.bl _)⟩
  · cases e
theorem bi_list : CallR X (.type "list") (rAs X.K g listD) := by
  intro pins s σ H vs us Q I rv ⟨F, ss, ds, r, a, h0, e, k⟩
  unfold listD at e
  split at e
  · obtain ⟨is, e2, e3⟩ := map_of e
    cases e3
    obtain ⟨v, rfl, h⟩ := one_of h0
    obtain ⟨p, ws, rfl, sp, fp⟩ := h.seq e2
    exact call_list_of pins s σ H _ us Q I rv ⟨p, ws, rfl, sp, fun l hl => k.lst a fp hl⟩
  · cases e
theorem bi_tuple : CallR X (.type "tuple") (rAs X.K g tupleD) := by
  intro pins s σ H vs us Q I rv ⟨F, ss, ds, r, a, h0, e, k⟩
  unfold tupleD at e
  split at e
  · obtain ⟨is, e2, e3⟩ := map_of e
    cases e3
    obtain ⟨v, rfl, h⟩ := one_of h0
    obtain ⟨p, ws, rfl, sp, fp⟩ := h.seq e2
    refine call_tuple_of pins s σ H _ us Q I rv ⟨p, ws, rfl, ?_⟩
    rcases sp with sp | sp
    · exact .inl ⟨sp, fun l hl => k.tup a fp hl⟩
    · exact .inr ⟨sp, k.val a (.tup sp fp)⟩
  · cases e
theorem vals_each {F : Addr → Prop} {K : PySem.W.Frag} {H : Hp} : ∀ {vs : List V} {us : List Value} {ds : List D}, Vals vs us → FDs K F H vs ds → PySem.W.EachIs (fun u d => ∃ x, RelV x u ∧ FD K F H x d) us ds
  | _, _, _, .nil, .nil => .nil
  | _, _, _, .cons r t, .cons f g => .cons ⟨_, r, f⟩ (vals_each t g)
theorem each_vals {F : Addr → Prop} {K : PySem.W.Frag} {H : Hp} : ∀ {us : List Value} {ds : List D}, PySem.W.EachIs (fun u d => ∃ x, RelV x u ∧ FD K F H x d) us ds → ∃ vs, Vals vs us ∧ FDs K F H vs ds
  | _, _, .nil => ⟨[], .nil, .nil⟩
  | _, _, .cons ⟨x, r, f⟩ t => let ⟨vs, a, b⟩ := each_vals t; ⟨x :: vs, .cons r a, .cons f b⟩
theorem vals_reads {F : Addr → Prop} {pins : List (Addr × Obj)} {σ : L2.St} {H : Hp} {s : Shared} (I : Inv X pins σ H s) : ∀ {vs : List V} {us : List Value} {ds : List D}, Vals vs us → FDs X.K F H vs ds → PySem.W.EachIs (fun u d => ∃ as, Reads s.heap u d as) us ds
  | _, _, _, .nil, .nil => .nil
  | _, _, _, .cons r t, .cons f g => .cons (Dp.reads I _ _ _ f.dp r) (vals_reads I t g)
theorem bi_sorted (hu : X.A.units + 100 < cLine) : CallR X (.builtin "sorted") (rAs X.K g sortedD) := by
  intro pins s σ H vs us Q I rv ⟨F, ss, ds, r, a, h0, e, k⟩
  unfold sortedD at e
  split at e
  · obtain ⟨xs, e2, e3⟩ := bind_of e
    split at e3 <;> cases e3
    rename_i hs
    obtain ⟨hal, hk, hd⟩ := sortable_of hs
    obtain ⟨v, rfl, h⟩ := one_of h0
    obtain ⟨p, ws, rfl, sp, fp⟩ := h.seq e2
    cases rv with
    | cons rv t =>
      cases t
      cases rv
      obtain ⟨its, T, o, n, rw_, hT, ho, hc, hdt, hz⟩ : ∃ (its : List Value) (T : String) (o : Obj) (n : Nat), Vals ws its ∧ (T = "list" ∨ T = "tuple") ∧ s.heap.get? p = some o ∧ o.cls = .type T ∧ o.data = .seq its.toArray n ∧ ws.length ≤ sizeLine := by
        rcases sp with sp | sp
        · obtain ⟨its, r, ⟨o, n, h1, h2, h3, h4⟩, hz⟩ := I.list sp
          exact ⟨its, "list", o, n, r, .inl rfl, h1, h2, h4, hz⟩
        · obtain ⟨its, r, ⟨o, h1, h2, n, h4⟩, hz⟩ := I.tuple sp
          exact ⟨its, "tuple", o, n, r, .inr rfl, h1, h2, h4, hz⟩
      refine sorted_seq (R := fun u d => ∃ x, RelV x u ∧ FD X.K F H x d) hT ho hc hdt (by rw [← rw_.length]; exact hz) (vals_each rw_ fp) (vals_reads I rw_ fp) hal hk (fun d hm => by have := hd d hm; omega) fun h1 h' out n k1 k2 he hl er => ?_
      rw [sortD_eq hal] at er
      obtain ⟨zs, r1, f1⟩ := each_vals er
      have I1 : Inv X pins σ H { s with heap := h1 } := I.kept (t' := s.toks) k1
      have hn : H h1.objs.size = none := I1.hok.fresh (Nat.le_refl _)
      refine ⟨.ref h1.objs.size, _, I1.laid (t' := s.toks) (o := .lst zs) k2 (Nat.le_refl _) ⟨?_, out, n, r1, he⟩, rfl, k.lst a f1 hn⟩
      rw [r1.length, hl, ← fp.length]
      exact hz
  · cases e
mutual
theorem FD.noDict {K : PySem.W.Frag} {F : Addr → Prop} {H : Hp} : ∀ {v : V} {d : D}, FD K F H v d → d.hasDict = false
  | _, _, .non => rfl
  | _, _, .bl _ => rfl
  | _, _, .int _ => rfl
  | _, _, .str _ => rfl
  | _, _, .lst _ _ r => by simp only [PyData.hasDict]; exact FDs.noDict r
  | _, _, .tup _ r => by simp only [PyData.hasDict]; exact FDs.noDict r
theorem FDs.noDict {K : PySem.W.Frag} {F : Addr → Prop} {H : Hp} : ∀ {vs : List V} {ds : List D}, FDs K F H vs ds → PyData.hasDictAll ds = false
  | _, _, .nil => rfl
  | _, _, .cons r t => by simp only [PyData.hasDictAll, Bool.or_eq_false_iff]; exact ⟨FD.noDict r, FDs.noDict t⟩
end
theorem RD.noDict {K : PySem.W.Frag} {F : Addr → Prop} {H : Hp} {v : V} {d : D} (h : RD K F H v d) : d.hasDict = false := by
  rcases h with h | ⟨a, vs, xs, rfl, rfl, h1, h2⟩
  · exact h.noDict
  · simp only [PyData.hasDict]; exact h2.noDict
theorem bi_repr (hg : X.A.guards = some []) (hu : X.A.units + 100 < cLine) : CallR X (.builtin "repr") (rAs X.K g reprD) := by
  intro pins s σ H vs us Q I rv ⟨F, ss, ds, r, a, h0, e, k⟩
  unfold reprD at e
  split at e
  · split at e <;> cases e
    rename_i x c
    obtain ⟨c1, c2, c3⟩ := c
    obtain ⟨v, rfl, h⟩ := one_of h0
    cases rv with
    | cons rv t =>
      cases t
      rename_i u
      have fin : ∀ h' tk t, (∀ b o, s.heap.get? b = some o → h'.get? b = some o) → EP X pins σ Q (.str x.shown t) { s with heap := h', toks := tk } := fun h' tk t hk =>
        ⟨.str x.shown, H, I.kept hk, ⟨_, rfl⟩, k.val a (.str _)⟩
      cases x with
      | none => obtain rfl := h.none; cases rv; exact PySem.P.repr_of_none (fin _ _ _ fun _ _ e => e)
      | bool b => obtain rfl := h.bool; cases rv; exact PySem.P.repr_of_bool (fin _ _ _ fun _ _ e => e)
      | int i => obtain rfl := h.int; obtain ⟨t, rfl⟩ := rv; exact PySem.P.repr_of_int (by simpa [PyData.showable] using c1) (fin _ _ _ fun _ _ e => e)
      | str z => obtain rfl := h.str; obtain ⟨t, rfl⟩ := rv; exact PySem.P.repr_of_str (fin _ _ _ fun _ _ e => e) (by simpa [PyData.shown, SL_eq] using c2)
      | list xs =>
        obtain ⟨as, rr⟩ := Dp.reads I _ _ u h.dp rv
        obtain ⟨p, ws, rfl, sp, fp⟩ := h.lst
        cases rv
        exact repr_of_reads' rr c1 (fun z => by rw [h.noDict] at z; cases z) hg (by omega) (fun _ _ e => e) (fun h' u tk hk => fin _ _ _ hk) (by rw [SL_eq]; exact c2)
      | tuple xs =>
        obtain ⟨as, rr⟩ := Dp.reads I _ _ u h.dp rv
        obtain ⟨p, ws, rfl, sp, fp⟩ := h.tup
        cases rv
        exact repr_of_reads' rr c1 (fun z => by rw [h.noDict] at z; cases z) hg (by omega) (fun _ _ e => e) (fun h' u tk hk => fin _ _ _ hk) (by rw [SL_eq]; exact c2)
      | dict kvs => have := h.noDict; simp [PyData.hasDict] at this
  · cases e
theorem kit_tag (K : PySem.W.Frag) (a U : String) (ha : a ∈ ["NoneType", "int", "bool", "tuple", "str", "list"]) (hU : U ∈ ["int", "bool", "tuple", "str", "list"]) : PySem.W.kitOne K (.type a) (.type U) = some (isTs a U) := by
  have h : (["NoneType", "int", "bool", "tuple", "str", "list"].all fun a => ["int", "bool", "tuple", "str", "list"].all fun U => kitB a U == some (isTs a U)) = true := by decide +kernel
  exact kit_ty (eq_of_beq (List.all_eq_true.mp (List.all_eq_true.mp h a ha) U hU))
theorem RD.tyX {K : PySem.W.Frag} {F : Addr → Prop} {H : Hp} {v : V} {d : D} (h : RD K F H v d) : TyX K H v (.type (tag d)) ∧ tag d ∈ ["NoneType", "int", "bool", "tuple", "str", "list"] := by
  cases d with
  | none => obtain rfl := h.none; exact ⟨.base .non, by simp [tag]⟩
  | bool b => obtain rfl := h.bool; exact ⟨.base (.bl _), by simp [tag]⟩
  | int i => obtain rfl := h.int; exact ⟨.base (.int _), by simp [tag]⟩
  | str z => obtain rfl := h.str; exact ⟨.base (.str _), by simp [tag]⟩
  | list xs => obtain ⟨p, ws, rfl, sp, fp⟩ := h.lst; exact ⟨.base (.lst sp), by simp [tag]⟩
  | tuple xs =>
    obtain ⟨p, ws, rfl, sp, fp⟩ := h.tup
    refine ⟨?_, by simp [tag]⟩
    rcases sp with (sp | ⟨o, sp⟩) | ⟨o, _, _, q, c, _⟩
    · exact .base (.tup sp)
    · exact .fTuple sp
    · exact .kTuple q c
  | dict kvs => have := h.noDict; simp [PyData.hasDict] at this
/-- isinstance(x, U) -/
def rIs (K : PySem.W.Frag) (g : G) (U : String) : List V → Hp → VK → Prop := fun vs H Q => ∃ F ss d x, vs = [x, .ty U] ∧ At K g F ss H ∧ RD K F H x d ∧ Kt K g F ss H (bl (isT U d)) Q
theorem bi_isT {U : String} (hU : U ∈ ["int", "bool", "tuple", "str", "list"]) : CallR X (.builtin "isinstance") (rIs X.K g U) := by
  intro pins s σ H vs us Q I rv ⟨F, ss, d, x, ev, a, h, k⟩
  subst ev
  obtain ⟨h1, h2⟩ := h.tyX
  exact call_isi pins s σ H _ us Q I rv ⟨x, .ty U, _, _, _, rfl, .ty U, h1, kit_tag X.K _ U h2 hU, k.val a (.bl _)⟩
end
end Pm
namespace Pm
open PySem PySem.Spec PyProof.Rows L2
/-! ### xs.index(x), xs.count(x) of a list -/
theorem findIx_of {p : D → Bool} : ∀ {xs : List D} {n i : Nat}, findIx p xs n = some i → n ≤ i ∧ (∃ z, xs[i - n]? = some z ∧ p z = true) ∧ ∀ m z, m < i - n → xs[m]? = some z → p z = false
  | [], n, i, e => by simp [findIx] at e
  | x :: r, n, i, e => by
    unfold findIx at e
    split at e
    · rename_i hp
      cases e
      refine ⟨Nat.le_refl _, ⟨x, by simp, hp⟩, fun m z hm => by omega⟩
    · rename_i hp
      obtain ⟨h1, ⟨z, h2, h3⟩, h4⟩ := findIx_of e
      refine ⟨by omega, ⟨z, ?_, h3⟩, fun m z' hm hz => ?_⟩
      · have : i - n = (i - (n + 1)) + 1 := by omega
        rw [this, List.getElem?_cons_succ]; exact h2
      · cases m with
        | zero => simp at hz; subst hz; simpa using hp
        | succ m => exact h4 m z' (by omega) (by simpa using hz)
def rMt (K : PySem.W.Frag) (g : G) (m : Me) : V → List V → Hp → VK → Prop := fun x xs H Q => ∃ F ss ds es r, At K g F ss H ∧ RD K F H x (.list ds) ∧ Paired (RD K F H) xs es ∧ meD m (.list ds) es = some r ∧ Kt K g F ss H r Q
theorem meIx_of {ds es : List D} {r : R} (e : meD .index (.list ds) es = some r) : ∃ y i, es = [y] ∧ SeqAt.shaped (.list ds) = true ∧ SeqAt.shaped y = true ∧ findIx (fun z => PyData.eqv z y) ds 0 = some i ∧ r = .v (.int i) := by
  match es, e with
  | [], e => cases e
  | [y], e =>
    have e : (if SeqAt.shaped (.list ds) = true ∧ SeqAt.shaped y = true then (findIx (fun z => PyData.eqv z y) ds 0).map (fun (i : Nat) => R.v (.int i)) else none) = some r := e
    split at e
    · rename_i h
      obtain ⟨i, e1, e2⟩ := Option.map_eq_some_iff.mp e
      exact ⟨y, i, rfl, h.1, h.2, e1, e2.symm⟩
    · cases e
  | _ :: _ :: _, e => cases e
theorem meCt_of {ds es : List D} {r : R} (e : meD .count (.list ds) es = some r) : ∃ y, es = [y] ∧ SeqAt.shaped (.list ds) = true ∧ SeqAt.shaped y = true ∧ r = .v (.int (ds.countP fun z => PyData.eqv z y : Nat)) := by
  match es, e with
  | [], e => cases e
  | [y], e =>
    have e : (if SeqAt.shaped (.list ds) = true ∧ SeqAt.shaped y = true then some (R.v (.int (ds.countP fun z => PyData.eqv z y : Nat))) else none) = some r := e
    split at e
    · rename_i h
      cases e
      exact ⟨y, rfl, h.1, h.2, rfl⟩
    · cases e
  | _ :: _ :: _, e => cases e
theorem meD_list {m : Me} {d : D} {es : List D} {r : R} (e : meD m d es = some r) : (m = .index ∨ m = .count) ∧ ∃ ds, d = .list ds := by
  unfold meD at e
  split at e
  · exact ⟨.inl rfl, _, rfl⟩
  · exact ⟨.inr rfl, _, rfl⟩
  · cases e
section
variable {X : Cx} {g : G}
theorem mt_ix (hu : X.A.units + 65 < cLine) : MtR X "list.index" (rMt X.K g .index) := by
  intro pins s σ H x xs v us Q I rx rxs ⟨F, ss, ds, es, r, a, hx, hxs, e, k⟩
  obtain ⟨y, i, rfl, s1, s2, hi, rfl⟩ := meIx_of e
  obtain ⟨z, rfl, hz⟩ := one_of hxs
  obtain ⟨_, ⟨w, h2, h3⟩, h4⟩ := findIx_of hi
  obtain ⟨p, vs, rfl, sp, fp⟩ := hx.lst
  rw [Nat.sub_zero] at h2 h4
  exact mt_indexD hu pins s σ H _ _ v us Q I rx rxs ⟨p, z, y, ds, i, w, rfl, rfl, .lst (.of sp) fp.dp, hz.dp, s1, s2, h2, h3, fun m z' hm q => h4 m z' hm q, k.val a (.int _)⟩
theorem mt_ct (hu : X.A.units + 65 < cLine) : MtR X "list.count" (rMt X.K g .count) := by
  intro pins s σ H x xs v us Q I rx rxs ⟨F, ss, ds, es, r, a, hx, hxs, e, k⟩
  obtain ⟨y, rfl, s1, s2, rfl⟩ := meCt_of e
  obtain ⟨z, rfl, hz⟩ := one_of hxs
  obtain ⟨p, vs, rfl, sp, fp⟩ := hx.lst
  cases rx
  cases rxs with
  | cons ry rt =>
    rename_i uy ut
    cases rt
    obtain ⟨bs, r1⟩ := Dp.reads I y z uy hz.dp ry
    obtain ⟨its, rv, ⟨o, n, ho, hc, hdn, hdt⟩, hlen⟩ := I.list (.of sp)
    obtain ⟨cls, dd, data, sls⟩ := o
    simp only at hc hdt
    subst hc hdt
    obtain ⟨as, h4⟩ := Dp.readsAll I ds _ its fp.dp rv
    have hxs : PyData.canLayAll0 ds = true := SeqAt.canLay_of_shaped s1
    have hroom : X.A.units + 1 + min (PyData.depthAll ds) y.depth < cLine := room_in_shaped s2 hu
    have hmap : its.map (SeqAt.readOf s.heap) = ds := SeqAt.readsAll_map ds its as hxs h4
    refine call_meets PySem.F.slot_list_count ⟨_, ho, rfl⟩ PySem.F.entry_list_count (PySem.F.args_list_count_2 _ _)
      (SeqAt.list_countAt p its.toArray n dd sls uy (fun u => PyData.eqv (SeqAt.readOf s.heap u) y)) ⟨ho, SeqAt.items_eqAt (vs := its.toArray) (show ReadsAll s.heap its.toArray.toList ds as from h4) r1 hxs (SeqAt.canLay_of_shaped s2) hroom, ?_⟩
    have hc : List.countP (fun u => PyData.eqv (SeqAt.readOf s.heap u) y) its.toArray.toList = List.countP (fun z => PyData.eqv z y) ds := by
      rw [← hmap, List.countP_map]
      rfl
    rw [hc]
    exact ⟨.int _, H, I.tok _, ⟨_, rfl⟩, k.val a (.int _)⟩
end
end Pm
namespace Pm
open PySem PySem.Spec PyProof.Rows L2
/-- a list or a tuple that is walked, as it stands -/
structure Cell where
  a : Addr
  isL : Bool
  vs : List V
  es : List D
def CellOk (K : PySem.W.Frag) (F : Addr → Prop) (H : Hp) (c : Cell) : Prop := (if c.isL = true then H c.a = some (.lst c.vs) else SqT K H c.a c.vs) ∧ FDs K F H c.vs c.es
def Pcs (K : PySem.W.Frag) (cs : List Cell) (F : Addr → Prop) (H : Hp) : Prop := ∀ c ∈ cs, CellOk K F H c
/-- a walk over the values ds -/
structure Wk (K : PySem.W.Frag) (g : G) (J : It) (ds : List D) (cs : List Cell) : Prop where
  go : ∀ (i : Nat) F H, i < ds.length → Pcs K cs F H → J.go i H
  stop : ∀ F H, Pcs K cs F H → J.stop ds.length H
  yld : ∀ (i : Nat) F H ss x H', i < ds.length → At K g F ss H → Pcs K cs F H → J.yld i H x H' → Gr g F F H H' ∧ SrcOk g.A g.C ss H' ∧ ∃ d, ds[i]? = some d ∧ FD K F H' x d
/-- where a walked list comes from -/
def Org (g : G) (F : Addr → Prop) (H0 : Hp) (nb : Bool) (c : Cell) : Prop := c.isL = true → F c.a ∨ (H0 c.a = none ∧ ¬ F c.a) ∨ (nb = false ∧ c.a ≠ g.C ∧ g.He c.a = none)
section
variable (K : PySem.W.Frag) (g : G)
def LI (nb : Bool) (m : SS → O (List D)) (sl : List SV) : TI := fun σ H R => ∃ F ss r ss', m ss = some (r, ss') ∧ Rp K g F ss sl σ H ∧ ∀ J H' F' cs, Gr g F F' H H' → Rp K g F' ss' sl σ H' → Wk K g J r cs → Pcs K cs F' H' → (∀ c ∈ cs, Org g F' H nb c) → R J H'
end
section
variable {K : PySem.W.Frag} {g : G} {F F' : Addr → Prop} {H H' H0 : Hp} {ss : SS} {sl : List SV} {σ : L2.St}
theorem CellOk.seq {c : Cell} (h : CellOk K F H c) : SqL K H c.a c.vs ∨ SqT K H c.a c.vs := by
  have h1 := h.1
  split at h1
  · exact .inl (.of h1)
  · exact .inr h1
theorem wk_list {a : Addr} {vs : List V} {es : List D} (hl : vs.length = es.length) : Wk K g (Itl K a) es [⟨a, true, vs, es⟩] := by
  refine ⟨fun i F H hi p => ?_, fun F H p => ?_, fun i F H ss x H' hi at_ p y => ?_⟩
  · have h := p _ List.mem_cons_self
    exact ⟨vs, vs[i]'(by omega), .of (show H a = some (.lst vs) from h.1), by simp⟩
  · have h := p _ List.mem_cons_self
    exact ⟨vs, .of (show H a = some (.lst vs) from h.1), by omega⟩
  · have h := p _ List.mem_cons_self
    obtain ⟨rfl, y⟩ := y
    obtain ⟨d, e1, e2⟩ := h.2.get' (y vs (.of (show H' a = some (.lst vs) from h.1)))
    exact ⟨at_.gr, at_.src, d, e1, e2⟩
theorem wk_tup {a : Addr} {vs : List V} {es : List D} (hl : vs.length = es.length) : Wk K g (Itt K a) es [⟨a, false, vs, es⟩] := by
  refine ⟨fun i F H hi p => ?_, fun F H p => ?_, fun i F H ss x H' hi at_ p y => ?_⟩
  · have h := p _ List.mem_cons_self
    exact ⟨vs, vs[i]'(by omega), h.1, by simp⟩
  · have h := p _ List.mem_cons_self
    exact ⟨vs, h.1, by omega⟩
  · have h := p _ List.mem_cons_self
    obtain ⟨rfl, y⟩ := y
    obtain ⟨d, e1, e2⟩ := h.2.get' (y vs h.1)
    exact ⟨at_.gr, at_.src, d, e1, e2⟩
theorem rangeD_len (a b : Int) : (rangeD a b).length = (b - a).toNat := by unfold rangeD; rw [List.length_map, List.length_range]
theorem wk_range {lo hi : Int} : Wk K g (Itr lo (hi - lo).toNat) (rangeD lo hi) [] := by
  refine ⟨fun i F H h p => ?_, fun F H p => ?_, fun i F H ss x H' h at_ p y => ?_⟩
  · rw [rangeD_len] at h; exact h
  · rw [rangeD_len]; exact Nat.le_refl _
  · obtain ⟨rfl, rfl⟩ := y
    rw [rangeD_len] at h
    exact ⟨at_.gr, at_.src, .int (lo + i), by unfold rangeD; rw [List.getElem?_map, List.getElem?_range h]; rfl, .int _⟩
theorem enumD_len (xs : List D) : (enumD xs).length = xs.length := by unfold enumD; rw [List.length_zipWith, List.length_range, Nat.min_self]
theorem enumD_get {xs : List D} {i : Nat} {d : D} (h : xs[i]? = some d) : (enumD xs)[i]? = some (.tuple [.int i, d]) := by
  unfold enumD
  have hi : i < xs.length := (List.getElem?_eq_some_iff.mp h).1
  rw [List.getElem?_zipWith, List.getElem?_range hi, h]
theorem wk_enum {a : Addr} {vs : List V} {es : List D} (hl : vs.length = es.length) : Wk K g (Ite K a) (enumD es) [⟨a, true, vs, es⟩] := by
  refine ⟨fun i F H hi p => ?_, fun F H p => ?_, fun i F H ss x H' hi at_ p y => ?_⟩
  · have h := p _ List.mem_cons_self
    rw [enumD_len] at hi
    exact ⟨vs, vs[i]'(by omega), .of (show H a = some (.lst vs) from h.1), by simp⟩
  · have h := p _ List.mem_cons_self
    exact ⟨vs, .of (show H a = some (.lst vs) from h.1), by rw [enumD_len]; omega⟩
  · have h := p _ List.mem_cons_self
    obtain ⟨T, v, rfl, hT, rfl, y⟩ := y
    obtain ⟨d, e1, e2⟩ := h.2.get' (y vs (.of (show H a = some (.lst vs) from h.1)))
    exact ⟨at_.upd hT, at_.src.upd (at_.ne hT).1 (at_.ne hT).2, _, enumD_get e1, .tup (.of upd_same) (.cons (.int _) (.one (e2.keep (at_.ke hT))))⟩
theorem wk_et {a : Addr} {vs : List V} {es : List D} (hl : vs.length = es.length) : Wk K g (Iet K a) (enumD es) [⟨a, false, vs, es⟩] := by
  refine ⟨fun i F H hi p => ?_, fun F H p => ?_, fun i F H ss x H' hi at_ p y => ?_⟩
  · have h := p _ List.mem_cons_self
    rw [enumD_len] at hi
    exact ⟨vs, vs[i]'(by omega), h.1, by simp⟩
  · have h := p _ List.mem_cons_self
    exact ⟨vs, h.1, by rw [enumD_len]; omega⟩
  · have h := p _ List.mem_cons_self
    obtain ⟨T, v, rfl, hT, rfl, y⟩ := y
    obtain ⟨d, e1, e2⟩ := h.2.get' (y vs h.1)
    exact ⟨at_.upd hT, at_.src.upd (at_.ne hT).1 (at_.ne hT).2, _, enumD_get e1, .tup (.of upd_same) (.cons (.int _) (.one (e2.keep (at_.ke hT))))⟩
/-- the value walked -/
theorem RR.cell {r : R} {x : V} {d : D} {xs : List D} (h : RR K g F H0 H r x) (e : Pm.rd r = some d) (e2 : seqOf d = some xs) (nb : Bool) (hn : nb = true → isBo r = false) :
    ∃ c : Cell, x = .ref c.a ∧ c.es = xs ∧ c.vs.length = xs.length ∧ CellOk K F H c ∧ Org g F H0 nb c ∧ d = (if c.isL = true then .list xs else .tuple xs) := by
  cases r with
  | v d' =>
    cases e
    have h : FD K F H x d := h
    cases h with
    | lst f e1 r => cases e2; exact ⟨⟨_, true, _, _⟩, rfl, rfl, r.length, ⟨e1, r⟩, fun _ => .inl f, rfl⟩
    | tup s r => cases e2; exact ⟨⟨_, false, _, _⟩, rfl, rfl, r.length, ⟨s, r⟩, fun z => (by cases z), rfl⟩
    | _ => cases e2
  | fr ys =>
    cases e; cases e2
    obtain ⟨a, vs, rfl, h1, h2, h3, h4⟩ := h
    exact ⟨⟨a, true, vs, _⟩, rfl, rfl, h2.length, ⟨h1, h2⟩, fun _ => .inr (.inl ⟨h4, h3⟩), rfl⟩
  | bo ys =>
    cases e; cases e2
    obtain ⟨a, vs, rfl, h1, h2, h3, h4⟩ := h
    refine ⟨⟨a, true, vs, _⟩, rfl, rfl, h2.length, ⟨h1, h2⟩, fun _ => .inr (.inr ⟨?_, h3, h4.1⟩), rfl⟩
    cases nb with
    | false => rfl
    | true => have := hn rfl; cases this
  | _ => cases e
end
section
variable {X : Cx} {g : G} {tg l : Expr} {sl : List SV} {ml : SS → O R}
/-- a sequence, whatever it is -/
theorem pi_seq (hl : PE X l (LE X.K g ml sl)) (nb : Bool) (hn : nb = true → ∀ ss r s, ml ss = some (r, s) → isBo r = false) : PI X tg l (LI X.K g nb (fun ss => toI (ml ss)) sl) := by
  refine ⟨fun pins s σ H R I h => ?_⟩
  obtain ⟨F, ss, ds, ss', e, rp, k⟩ := h
  obtain ⟨r, e1, e2⟩ := O.f_of e
  refine thn (hl.run pins s σ H (fun x H1 => ∃ F1 c, Gr g F F1 H H1 ∧ Rp X.K g F1 ss' sl σ H1 ∧ x = .ref c.a ∧ c.es = ds ∧ c.vs.length = ds.length ∧ CellOk X.K F1 H1 c ∧ Org g F1 H nb c) I ⟨F, ss, r, ss', e1, rp, fun x H1 F1 g1 p1 h1 => ?_⟩) fun v s1 ⟨x, H1, I1, r1, F1, c, g1, p1, ex, ec, hlen, hc, ho⟩ => ?_
  · have e3 : (rd r).bind seqOf = some ds := by
      cases r with
      | it xs => exact h1.elim
      | _ => exact e2
    obtain ⟨d, e4, e5⟩ := bind_of e3
    obtain ⟨c, h2, h3, h4, h5, h6, _⟩ := h1.cell e4 e5 nb fun z => hn z _ _ _ e1
    exact ⟨F1, c, g1, p1, h2, h3, h4, h5, h6⟩
  subst ex
  cases r1
  obtain ⟨a, isL, vs, es⟩ := c
  obtain rfl : es = ds := ec
  cases isL with
  | true =>
    have hs : SqL X.K H1 a vs := .of hc.1
    obtain ⟨its, rv, p, hz⟩ := I1.list hs
    refine wpAny_pyIter_list p.isList ?_
    refine ⟨s1.heap.objs.size, [s1.heap.objs.size], _, _, H1, rfl, I1.kept (t' := s1.toks) fun b o e => Heap.get?_push_of_some _ e, turn_list a _, ⟨_, Heap.get?_push_size _ rfl, rfl, rfl⟩, fun b hb => ?_, ?_⟩
    · obtain rfl : b = s1.heap.objs.size := by simpa using hb
      exact I1.fpOk (Nat.le_refl _) (I1.hok.fresh (Nat.le_refl _))
    · exact k _ H1 F1 _ g1 p1 (wk_list hlen) (fun c hm => by obtain rfl := List.mem_singleton.mp hm; exact hc) (fun c hm => by obtain rfl := List.mem_singleton.mp hm; exact ho)
  | false =>
    have hs : SqT X.K H1 a vs := hc.1
    obtain ⟨its, rv, p, hz⟩ := I1.tuple hs
    refine wpAny_pyIter_tuple (show s1.heap.IsTuple a its.toArray from p) ?_
    refine ⟨s1.heap.objs.size, [s1.heap.objs.size], _, _, H1, rfl, I1.kept (t' := s1.toks) fun b o e => Heap.get?_push_of_some _ e, turn_tuple a _, ⟨_, Heap.get?_push_size _ rfl, rfl, rfl⟩, fun b hb => ?_, ?_⟩
    · obtain rfl : b = s1.heap.objs.size := by simpa using hb
      exact I1.fpOk (Nat.le_refl _) (I1.hok.fresh (Nat.le_refl _))
    · exact k _ H1 F1 _ g1 p1 (wk_tup hlen) (fun c hm => by obtain rfl := List.mem_singleton.mp hm; exact hc) (fun c hm => by obtain rfl := List.mem_singleton.mp hm; exact ho)
theorem PI.imp {iter : Expr} {t t' : TI} (h : PI X tg iter t) (i : ∀ σ H R, t' σ H R → t σ H R) : PI X tg iter t' := ⟨fun pins s σ H R I q => h.run pins s σ H R I (i σ H R q)⟩
theorem pi_rg1 {a : Expr} {p pos : Pos} {ma : SS → O R} (nb : Bool) (hg : Gl X "range") (hm : X.mg "range" = none) (ha : PE X a (LE X.K g ma sl)) (hs : ∀ v p, a ≠ .Starred v p) :
    PI X tg (.Call (.Name "range" p) [a] [] pos) (LI X.K g nb (fun ss => toI ((toD (ma ss)).f rg1D)) sl) := by
  have hs1 : starEach [a] X.env = (false, eval a X.env) :: starEach [] X.env := by
    cases a <;> first | rfl | exact absurd rfl (hs _ _)
  refine PI.imp (pi_range1 hg hm (pa_cons ha pa_nil hs1) (by rw [hs1]; rfl)) fun σ H R h => ?_
  obtain ⟨F, ss, ds, ss', e, rp, k⟩ := h
  obtain ⟨r, e1, e2⟩ := O.f_of e
  obtain ⟨d, e3, e4⟩ := O.f_of e1
  obtain ⟨r0, e5, e6⟩ := O.f_of e3
  refine ⟨F, ss, r0, _, e5, rp, fun x H1 F1 g1 p1 h1 => ?_⟩
  unfold rg1D at e4
  split at e4
  · split at e4 <;> cases e4
    rename_i i hi
    obtain rfl := (h1.rd e6).int
    cases e2
    refine ⟨i, rfl, by omega, by omega, ?_⟩
    have := k (Itr 0 (i - 0).toNat) H1 F1 [] g1 p1 wk_range (fun c hm => nomatch hm) (fun c hm => nomatch hm)
    simpa using this
  · cases e4
theorem pi_rg2 {a b : Expr} {p pos : Pos} {ma mb : SS → O R} (nb : Bool) (hg : Gl X "range") (hm : X.mg "range" = none) (ha : PE X a (LE X.K g ma sl)) (hb : PE X b (LE X.K g mb sl)) (hs : ∀ v p, a ≠ .Starred v p) (hsb : ∀ v p, b ≠ .Starred v p) :
    PI X tg (.Call (.Name "range" p) [a, b] [] pos) (LI X.K g nb (fun ss => toI ((toD (ma ss)).bind fun p => (toD (mb p.2)).bind fun q => (rg2D p.1 q.1).map fun r => (r, q.2))) sl) := by
  have hs2 : starEach [b] X.env = (false, eval b X.env) :: starEach [] X.env := by
    cases b <;> first | rfl | exact absurd rfl (hsb _ _)
  have hs1 : starEach [a, b] X.env = (false, eval a X.env) :: starEach [b] X.env := by
    cases a <;> first | rfl | exact absurd rfl (hs _ _)
  refine PI.imp (pi_range2 hg hm (pa_cons ha (pa_cons hb pa_nil hs2) hs1) (by rw [hs1, hs2]; rfl) (by rw [hs2]; rfl)) fun σ H R h => ?_
  obtain ⟨F, ss, ds, ss', e, rp, k⟩ := h
  obtain ⟨r, e1, e2⟩ := O.f_of e
  obtain ⟨⟨da, s1⟩, e3, e1⟩ := bind_of e1
  obtain ⟨⟨db, s2⟩, e4, e1⟩ := bind_of e1
  obtain ⟨r', e5, e6⟩ := map_of e1
  cases e6
  obtain ⟨ra, e7, e8⟩ := O.f_of e3
  obtain ⟨rb, e9, e10⟩ := O.f_of e4
  refine ⟨F, ss, ra, _, e7, rp, fun x H1 F1 g1 p1 h1 => ⟨F1, _, rb, _, e9, p1, fun y H2 F2 g2 p2 h2 => ?_⟩⟩
  have e5 : rg2D da db = some r := e5
  unfold rg2D at e5
  split at e5
  · split at e5 <;> cases e5
    obtain rfl := (h1.rd e8).int
    obtain rfl := (h2.rd e10).int
    cases e2
    exact ⟨_, _, rfl, ⟨by omega, by omega, by omega, by omega⟩, k _ H2 F2 [] (g1.trans g2) p2 wk_range (fun c hm => nomatch hm) (fun c hm => nomatch hm)⟩
  · cases e5
theorem PI.or {iter : Expr} {t1 t2 : TI} (h1 : PI X tg iter t1) (h2 : PI X tg iter t2) : PI X tg iter (fun σ H R => t1 σ H R ∨ t2 σ H R) := ⟨fun pins s σ H R I q => q.elim (h1.run pins s σ H R I) (h2.run pins s σ H R I)⟩
/-- enumerate of a list, of a tuple -/
theorem pi_en {a : Expr} {p pos tpos : Pos} {elts : List Expr} {kk : Nat} {ma : SS → O R} (nb : Bool) (hg : Gl X "enumerate") (hm : X.mg "enumerate" = none) (ha : PE X a (LE X.K g ma sl)) (hs : ∀ v p, a ≠ .Starred v p)
    (hn : nb = true → ∀ ss r s, ma ss = some (r, s) → isBo r = false) :
    PI X (.Tuple elts kk tpos) (.Call (.Name "enumerate" p) [a] [] pos) (LI X.K g nb (fun ss => toI ((toD (ma ss)).f enD)) sl) := by
  have hs1 : starEach [a] X.env = (false, eval a X.env) :: starEach [] X.env := by
    cases a <;> first | rfl | exact absurd rfl (hs _ _)
  refine PI.imp (PI.or (pi_enum hg hm (pa_cons ha pa_nil hs1) (by rw [hs1]; rfl)) (pi_et hg hm (pa_cons ha pa_nil hs1) (by rw [hs1]; rfl))) fun σ H R h => ?_
  obtain ⟨F, ss, ds, ss', e, rp, k⟩ := h
  obtain ⟨r, e1, e2⟩ := O.f_of e
  obtain ⟨d, e3, e4⟩ := O.f_of e1
  obtain ⟨r0, e5, e6⟩ := O.f_of e3
  cases d with
  | list xs =>
    cases e4
    cases e2
    refine .inl ⟨F, ss, r0, _, e5, rp, fun x H1 F1 g1 p1 h1 => ?_⟩
    obtain ⟨⟨c, isL, vs, es⟩, rfl, h3, h4, h5, h6, h7⟩ := h1.cell e6 rfl nb fun z => hn z _ _ _ e5
    obtain rfl : es = xs := h3
    cases isL with
    | true => exact ⟨c, vs, rfl, .of h5.1, k _ H1 F1 _ g1 p1 (wk_enum h4) (fun c hm => by obtain rfl := List.mem_singleton.mp hm; exact h5) (fun c hm => by obtain rfl := List.mem_singleton.mp hm; exact h6)⟩
    | false => cases h7
  | tuple xs =>
    cases e4
    cases e2
    refine .inr ⟨F, ss, r0, _, e5, rp, fun x H1 F1 g1 p1 h1 => ?_⟩
    obtain ⟨⟨c, isL, vs, es⟩, rfl, h3, h4, h5, h6, h7⟩ := h1.cell e6 rfl nb fun z => hn z _ _ _ e5
    obtain rfl : es = xs := h3
    cases isL with
    | false => exact ⟨c, vs, rfl, h5.1, k _ H1 F1 _ g1 p1 (wk_et h4) (fun c hm => by obtain rfl := List.mem_singleton.mp hm; exact h5) (fun c hm => by obtain rfl := List.mem_singleton.mp hm; exact h6)⟩
    | true => cases h7
  | _ => cases e4
end
end Pm
namespace Pm
open PySem PySem.Spec PyProof.Rows L2
section
variable {K : PySem.W.Frag} {g : G} {F F' : Addr → Prop} {H H' H0 : Hp} {ss : SS} {sl : List SV} {σ : L2.St}
/-- a slot is given a value -/
theorem Rp.setV {i : Nat} {v : V} {d : D} (r : Rp K g F ss sl σ H) (hv : FD K F H v d) : Rp K g F ss (sl.set i (.v d)) (σ.set i (some v)) H := by
  refine ⟨by rw [List.length_set, List.length_set]; exact r.len, fun j s e => ?_, fun j l s t a hne ej el os ot eσ => ?_, r.ent, r.frz, r.dom, r.fe, r.fC, r.eS, r.src⟩
  · by_cases hj : i = j
    · subst hj
      by_cases hi : i < sl.length
      · rw [List.getElem?_set_self hi] at e
        cases e
        exact ⟨some v, List.getElem?_set_self (by rw [← r.len]; exact hi), v, rfl, hv⟩
      · rw [List.getElem?_eq_none (by rw [List.length_set]; omega)] at e; cases e
    · rw [List.getElem?_set_ne hj] at e ⊢
      exact r.slot j s e
  · have nj : i ≠ j := fun z => by
      subst z
      by_cases hi : i < sl.length
      · rw [List.getElem?_set_self hi] at ej; cases ej; cases os
      · rw [List.getElem?_eq_none (by rw [List.length_set]; omega)] at ej; cases ej
    have nl : i ≠ l := fun z => by
      subst z
      by_cases hi : i < sl.length
      · rw [List.getElem?_set_self hi] at el; cases el; cases ot
      · rw [List.getElem?_eq_none (by rw [List.length_set]; omega)] at el; cases el
    rw [List.getElem?_set_ne nj] at ej eσ
    rw [List.getElem?_set_ne nl] at el ⊢
    exact r.apart j l s t a hne ej el os ot eσ
/-- a slot is forgotten -/
theorem Rp.un {i : Nat} {x : Option V} (r : Rp K g F ss sl σ H) : Rp K g F ss (sl.set i .un) (σ.set i x) H := by
  refine ⟨by rw [List.length_set, List.length_set]; exact r.len, fun j s e => ?_, fun j l s t a hne ej el os ot eσ => ?_, r.ent, r.frz, r.dom, r.fe, r.fC, r.eS, r.src⟩
  · by_cases hj : i = j
    · subst hj
      by_cases hi : i < sl.length
      · rw [List.getElem?_set_self hi] at e
        cases e
        exact ⟨x, List.getElem?_set_self (by rw [← r.len]; exact hi), trivial⟩
      · rw [List.getElem?_eq_none (by rw [List.length_set]; omega)] at e; cases e
    · rw [List.getElem?_set_ne hj] at e ⊢
      exact r.slot j s e
  · have nj : i ≠ j := fun z => by
      subst z
      by_cases hi : i < sl.length
      · rw [List.getElem?_set_self hi] at ej; cases ej; cases os
      · rw [List.getElem?_eq_none (by rw [List.length_set]; omega)] at ej; cases ej
    have nl : i ≠ l := fun z => by
      subst z
      by_cases hi : i < sl.length
      · rw [List.getElem?_set_self hi] at el; cases el; cases ot
      · rw [List.getElem?_eq_none (by rw [List.length_set]; omega)] at el; cases el
    rw [List.getElem?_set_ne nj] at ej eσ
    rw [List.getElem?_set_ne nl] at el ⊢
    exact r.apart j l s t a hne ej el os ot eσ
theorem Rp.un0 {i : Nat} (r : Rp K g F ss sl σ H) : Rp K g F ss (sl.set i .un) σ H := by
  have h := r.un (i := i) (x := (σ[i]?).join)
  have e : σ.set i (σ[i]?).join = σ := by
    apply List.ext_getElem?
    intro j
    by_cases hj : i = j
    · subst hj
      by_cases hi : i < σ.length
      · rw [List.getElem?_set_self hi, List.getElem?_eq_getElem hi]; rfl
      · rw [List.getElem?_eq_none (by rw [List.length_set]; omega), List.getElem?_eq_none (by omega)]
    · rw [List.getElem?_set_ne hj]
  rw [e] at h
  exact h
theorem Rp.kill (r : Rp K g F ss sl σ H) : ∀ js : List Nat, Rp K g F ss (killS js sl) (wipe σ js) H
  | [] => r
  | _ :: js => (Rp.kill r js).un
theorem Rp.kill0 (r : Rp K g F ss sl σ H) : ∀ js : List Nat, Rp K g F ss (killS js sl) σ H
  | [] => r
  | _ :: js => (Rp.kill0 r js).un0
/-- a target -/
def LG (K : PySem.W.Frag) (g : G) (t : TGt) : TG := fun v σ H Q => ∃ F ss sl d sl', Rp K g F ss sl σ H ∧ FD K F H v d ∧ bindT t d sl = some sl' ∧ ∀ σ', Rp K g F ss sl' σ' H → σ'.length = σ.length → (∀ j, j ∉ t.slots → σ'[j]? = σ[j]? ∧ sl'[j]? = sl[j]?) → Q σ' H
def LGs (K : PySem.W.Frag) (g : G) (t : List TGt) : TGs := fun vs σ H Q => ∃ F ss sl ds sl', Rp K g F ss sl σ H ∧ FDs K F H vs ds ∧ bindTs t ds sl = some sl' ∧ ∀ σ', Rp K g F ss sl' σ' H → σ'.length = σ.length → (∀ j, j ∉ TGt.slotss t → σ'[j]? = σ[j]? ∧ sl'[j]? = sl[j]?) → Q σ' H
theorem PG.imp {X : Cx} {tg : Expr} {t t' : TG} (h : PG X tg t) (i : ∀ v σ H Q, t' v σ H Q → t v σ H Q) : PG X tg t' := ⟨fun pins s σ H v u Q I rv q => h.run pins s σ H v u Q I rv (i v σ H Q q)⟩
theorem PGs.imp {X : Cx} {tg : List Expr} {t t' : TGs} (h : PGs X tg t) (i : ∀ v σ H Q, t' v σ H Q → t v σ H Q) : PGs X tg t' := ⟨fun pins s σ H v u Q I rv q => h.run pins s σ H v u Q I rv (i v σ H Q q)⟩
theorem LG.one {i : Nat} {v : V} {Q : L2.St → Hp → Prop} (h : LG K g (.one i) v σ H Q) : gName i v σ H Q := by
  obtain ⟨F, ss, sl, d, sl', rp, hv, e, k⟩ := h
  have e : setS sl i (.v d) = some sl' := e
  unfold setS at e
  split at e <;> cases e
  exact k _ (rp.setV hv) (List.length_set ..) fun j hj => by
    have hj : i ≠ j := fun z => hj (by simp [TGt.slots, z])
    exact ⟨List.getElem?_set_ne hj, List.getElem?_set_ne hj⟩
theorem LGs.nil {vs : List V} {Q : L2.St → Hp → Prop} (h : LGs K g [] vs σ H Q) : gNil vs σ H Q := by
  obtain ⟨F, ss, sl, ds, sl', rp, hv, e, k⟩ := h
  cases hv with
  | nil => cases e; exact ⟨rfl, k _ rp rfl fun j _ => ⟨rfl, rfl⟩⟩
  | cons a b => cases e
theorem LGs.cons {t : TGt} {ts : List TGt} {vs : List V} {Q : L2.St → Hp → Prop} (h : LGs K g (t :: ts) vs σ H Q) : gCons (LG K g t) (LGs K g ts) vs σ H Q := by
  obtain ⟨F, ss, sl, ds, sl', rp, hv, e, k⟩ := h
  cases hv with
  | nil => cases e
  | cons a b =>
    obtain ⟨sl1, e1, e2⟩ := bind_of e
    refine ⟨_, _, rfl, F, ss, sl, _, sl1, rp, a, e1, fun σ1 r1 l1 k1 => ⟨F, ss, sl1, _, sl', r1, b, e2, fun σ2 r2 l2 k2 => k σ2 r2 (l2.trans l1) fun j hj => ?_⟩⟩
    simp only [TGt.slotss, List.mem_append, not_or] at hj
    obtain ⟨a1, a2⟩ := k1 j hj.1
    obtain ⟨b1, b2⟩ := k2 j hj.2
    exact ⟨b1.trans a1, b2.trans a2⟩
theorem LG.tup {ts : List TGt} {v : V} {n : Nat} {Q : L2.St → Hp → Prop} (h : LG K g (.tup ts) v σ H Q) (hn : ts.length = n) : gTup K n (LGs K g ts) v σ H Q := by
  obtain ⟨F, ss, sl, d, sl', rp, hv, e, k⟩ := h
  cases hv with
  | tup s r =>
    rename_i a vs ds
    have e : bindTs ts ds sl = some sl' := e
    have hl : ∀ (ts : List TGt) (ds : List D) (sl sl' : List SV), bindTs ts ds sl = some sl' → ts.length = ds.length := by
      intro ts
      induction ts with
      | nil => intro ds sl sl' e; cases ds <;> first | rfl | cases e
      | cons t ts ih =>
        intro ds sl sl' e
        cases ds with
        | nil => cases e
        | cons d ds => obtain ⟨sl1, e1, e2⟩ := bind_of e; simp [ih _ _ _ e2]
    exact ⟨a, vs, rfl, s, by rw [r.length, ← hl _ _ _ _ e, hn], F, ss, sl, ds, sl', rp, r, e, k⟩
  | _ => cases e
theorem CellOk.grow {c : Cell} {H1 : Hp} (h : CellOk K F H c) (gr : Gr g F F' H H') (hf : ¬ F g.C) (hc : c.isL = true → c.a ≠ g.C) : CellOk K F' H' c := by
  have k : Ke K F F' H H' := gr.ke hf
  obtain ⟨s0, s1, e0, e1⟩ := gr.src
  refine ⟨?_, h.2.keep k⟩
  have h1 := h.1
  by_cases hl : c.isL = true
  · rw [if_pos hl] at h1 ⊢
    exact gr.keep _ _ h1 (fun z => by rw [z, e0.1] at h1; cases h1) (hc hl)
  · rw [if_neg hl] at h1 ⊢
    exact k.tup _ _ h1
end
section
variable {X : Cx} {g : G} {sl : List SV}
theorem wipe_set (σ : L2.St) {vs : List Nat} {σ2 : L2.St} (hl : σ2.length = σ.length) (h : ∀ j, j ∉ vs → σ2[j]? = (wipe σ vs)[j]?) : wipe σ2 vs = wipe σ vs := by
  have key : ∀ (vs : List Nat) (τ : L2.St) (j : Nat), (wipe τ vs)[j]? = if j ∈ vs then (if j < τ.length then some none else none) else τ[j]? := by
    intro vs
    induction vs with
    | nil => intro τ j; simp [wipe]
    | cons v vs ih =>
      intro τ j
      unfold wipe
      by_cases hv : v = j
      · subst hv
        by_cases hj : v < τ.length
        · rw [List.getElem?_set_self (by rw [wipe_length]; exact hj)]; simp [hj]
        · rw [List.getElem?_eq_none (by rw [List.length_set, wipe_length]; omega)]; simp [hj]
      · rw [List.getElem?_set_ne hv, ih τ j]
        have : j ∈ v :: vs ↔ j ∈ vs := by simp [List.mem_cons, Ne.symm hv]
        simp only [this]
  apply List.ext_getElem?
  intro j
  rw [key vs σ2 j, key vs σ j]
  by_cases hj : j ∈ vs
  · simp [hj, hl]
  · have := h j hj
    rw [key vs σ j] at this
    simpa [hj] using this
/-- the reading of a comprehension -/
theorem LE.lc {K : PySem.W.Frag} {wi : TI} {tg : TGt} {tt : TT} {te : TE} {σ : L2.St} {H : Hp} {Q : VK} {m mi : SS → O R} {elt : List SV → SS → O R} {cn : List SV → SS → O Bool} {el : List SV → SS → O D} (h : LE K g m sl σ H Q)
    (hm : ∀ ss, m ss = (toI (mi ss)).bind fun p => (lcD (fun d ss => (bindT tg d (killS tg.slots sl)).bind fun sl' => (cn sl' ss).bind fun q =>
      if q.1 then (el sl' q.2).bind fun t => some (some t.1, t.2) else some (none, q.2)) p.1 p.2).bind fun q => if p.1.length ≤ SL then some (.fr q.1, q.2) else none)
    (hel : ∀ sl ss, el sl ss = toE (elt sl ss))
    (hwi : ∀ σ H R, LI K g false (fun ss => toI (mi ss)) sl σ H R → wi σ H R)
    (htt : ∀ sl' σ H Q, LT K g (cn sl') sl' σ H Q → tt σ H Q) (hte : ∀ sl' σ H Q, LE K g (elt sl') sl' σ H Q → te σ H Q) :
    tLc wi (LG K g tg) tt te tg.slots σ H Q := by
  obtain ⟨F, ss, r, ss', e, rp, k⟩ := h
  rw [hm] at e
  obtain ⟨⟨ds, s1⟩, e1, e⟩ := bind_of e
  obtain ⟨⟨ys, s2⟩, e2, e⟩ := bind_of e
  have e2 : lcD (fun d ss => (bindT tg d (killS tg.slots sl)).bind fun sl' => (cn sl' ss).bind fun q =>
      if q.1 then (el sl' q.2).bind fun t => some (some t.1, t.2) else some (none, q.2)) ds s1 = some (ys, s2) := e2
  obtain ⟨hsz, e⟩ : ds.length ≤ SL ∧ (some (R.fr ys, s2) : O R) = some (r, ss') := by
    by_cases hz : ds.length ≤ SL
    · exact ⟨hz, by rw [← e]; exact (if_pos hz).symm⟩
    · have e3 := (if_neg hz).symm.trans e
      cases e3
  cases e
  generalize hf : (fun (d : D) (ss : SS) => (bindT tg d (killS tg.slots sl)).bind fun sl' => (cn sl' ss).bind fun q =>
      if q.1 then (el sl' q.2).bind fun t => some ((some t.1 : Option D), t.2) else some (none, q.2)) = f at e2
  refine hwi _ _ _ ⟨F, ss, ds, s1, e1, rp, fun J H1 F1 cs g1 p1 wk pc org => fun D hD => ?_⟩
  have oC : ∀ c ∈ cs, c.isL = true → c.a ≠ g.C := fun c hc hl z => by
    obtain ⟨s0, _, z0, _⟩ := g1.src
    rcases org c hc hl with o | o | o
    · rw [z] at o; exact g1.fC o
    · rw [z, z0.2.1] at o; cases o.1
    · exact o.2.1 z
  have nD : D ≠ g.A ∧ D ≠ g.C := ⟨(p1.srcNe hD).1.symm, (p1.srcNe hD).2.symm⟩
  -- the state at a turn
  refine ⟨fun i n H => ∃ F2 t acc av rest, n = ds.length - i ∧ i ≤ ds.length ∧ Gr g F1 F2 H1 H ∧ SrcOk g.A g.C t H ∧ H D = some (.lst av) ∧ FDs K F2 H av acc ∧ ¬ F2 D ∧ acc.length ≤ i ∧ lcD f (ds.drop i) t = some (rest, ss') ∧ acc ++ rest = ys,
    ⟨ds.length, F1, s1, [], [], ys, by simp, Nat.zero_le _, p1.grUpd hD, p1.src.upd nD.1.symm nD.2.symm, upd_same, .nil, p1.at.nf hD, Nat.le_refl _, by simpa using e2, rfl⟩, ?_⟩
  rintro i n H2 ⟨F2, t, acc, av, rest, rfl, hi, g2, sr, hHD, hacc, nF, hlen, he, hys⟩
  have p2 := p1.step g2 sr
  have pc2 : Pcs K cs F2 H2 := fun c hc => (pc c hc).grow (H1 := H1) g2 p1.fC (oC c hc)
  by_cases hlt : i < ds.length
  · refine .inr ⟨wk.go i F2 H2 hlt pc2, fun H' => ∃ F2 t acc av rest, i + 1 ≤ ds.length ∧ Gr g F1 F2 H1 H' ∧ SrcOk g.A g.C t H' ∧ H' D = some (.lst av) ∧ FDs K F2 H' av acc ∧ ¬ F2 D ∧ acc.length ≤ i + 1 ∧ lcD f (ds.drop (i + 1)) t = some (rest, ss') ∧ acc ++ rest = ys,
      fun H' ⟨F2, t, acc, av, rest, a1, a2, a3, a4, a5, a6, a7, a8, a9⟩ => ⟨ds.length - (i + 1), by omega, F2, t, acc, av, rest, rfl, a1, a2, a3, a4, a5, a6, a7, a8, a9⟩, fun x H3 hy => ?_⟩
    obtain ⟨g3, sr3, d, hd, hx⟩ := wk.yld i F2 H2 t x H3 hlt p2.at pc2 hy
    have p3 := p2.step g3 sr3
    have ed : ds.drop i = d :: ds.drop (i + 1) := by
      rw [List.drop_eq_getElem_cons hlt]
      rw [List.getElem?_eq_getElem hlt] at hd
      cases hd; rfl
    rw [ed] at he
    -- the turn in the evaluator
    have hfd : f d t = (bindT tg d (killS tg.slots sl)).bind fun sl' => (cn sl' t).bind fun q => if q.1 then (el sl' q.2).bind fun t => some ((some t.1 : Option Pm.D), t.2) else some (none, q.2) := by rw [← hf]
    obtain ⟨oy, t1, eft, hrest⟩ : ∃ oy t1, f d t = some (oy, t1) ∧ (match oy with | some y => ∃ r', lcD f (ds.drop (i + 1)) t1 = some (r', ss') ∧ rest = y :: r' | none => lcD f (ds.drop (i + 1)) t1 = some (rest, ss')) := by
      unfold lcD at he
      cases q : f d t with
      | none => rw [q] at he; cases he
      | some p =>
        obtain ⟨oy, t1⟩ := p
        rw [q] at he
        cases oy with
        | none => exact ⟨none, t1, rfl, he⟩
        | some y =>
          obtain ⟨⟨r', s'⟩, e3, e4⟩ := map_of he
          cases e4
          exact ⟨some y, t1, rfl, r', e3, rfl⟩
    rw [hfd] at eft
    obtain ⟨sl', eb, eft⟩ := bind_of eft
    obtain ⟨⟨b, t2⟩, ec, eft⟩ := bind_of eft
    refine ⟨F2, t, killS tg.slots sl, d, sl', p3.kill _, hx, eb, fun σ' p4 l4 k4 => ⟨wipe_set σ (by rw [l4, wipe_length]) fun j hj => (k4 j hj).1, ?_⟩⟩
    refine htt sl' _ _ _ ⟨F2, t, b, t2, ec, p4, fun H5 F5 g5 p5 => ?_⟩
    have g15 : Gr g F1 F5 H1 H5 := g2.trans (g3.trans g5)
    have hD5 : H5 D = some (.lst av) := g5.keep _ _ (g3.keep _ _ hHD nD.1 nD.2) nD.1 nD.2
    have nF5 : ¬ F5 D := fun z => by
      rcases g5.new D z with z | z
      · exact nF z
      · rw [g3.keep _ _ hHD nD.1 nD.2] at z; cases z
    have hacc5 : FDs K F5 H5 av acc := (hacc.keep (g3.ke p2.fC)).keep (g5.ke p3.fC)
    cases b with
    | false =>
      rw [if_neg Bool.false_ne_true] at eft
      refine iteF ?_
      cases eft
      exact ⟨F5, t2, acc, av, rest, hlt, g15, p5.src, hD5, hacc5, nF5, by omega, hrest, hys⟩
    | true =>
      rw [if_pos rfl] at eft
      refine iteT ?_
      obtain ⟨⟨y, t3⟩, ee, eft⟩ := bind_of eft
      cases eft
      obtain ⟨r', hr', rfl⟩ := hrest
      rw [hel] at ee
      obtain ⟨ry, ey, esy⟩ := O.f_of ee
      refine hte sl' _ _ _ ⟨F5, t2, ry, _, ey, p5, fun z H6 F6 g6 p6 h6 => ?_⟩
      obtain ⟨F7, g7, f7⟩ := h6.esc esy g6
      have hD6 : H6 D = some (.lst av) := g6.keep _ _ hD5 nD.1 nD.2
      have nF7 : ¬ F7 D := fun z => by
        rcases g7.new D z with z | z
        · exact nF5 z
        · rw [hD5] at z; cases z
      have g17 : Gr g F1 F7 H1 H6 := g15.trans g7
      refine ⟨av, hD6, by rw [hacc.length, SL_eq]; omega, F7, t3, acc ++ [y], av ++ [z], r', hlt, ?_, ?_, upd_same, ?_, nF7, by rw [List.length_append, List.length_singleton]; omega, hr', by rw [List.append_assoc]; exact hys⟩
      · refine ⟨fun a o e n1 n2 => ?_, g17.sub, g17.new, fun a fa => ?_, g17.fC, ?_⟩
        · rw [upd_ne (ne_of_none e hD)]; exact g17.keep a o e n1 n2
        · obtain ⟨ws, e⟩ := g17.dom a fa
          exact ⟨ws, by rw [upd_ne (fun zz : a = D => nF7 (zz ▸ fa))]; exact e⟩
        · obtain ⟨s0, _, z0, _⟩ := g17.src
          exact ⟨s0, _, z0, p6.src.upd nD.1.symm nD.2.symm⟩
      · exact p6.src.upd nD.1.symm nD.2.symm
      · have ke : Ke K F7 F7 H6 (upd H6 D (.lst (av ++ [z]))) := by
          refine ⟨fun a ws s => ?_, fun a ws fa e => ⟨fa, by rw [upd_ne (fun zz : a = D => nF7 (zz ▸ fa))]; exact e⟩⟩
          rcases s with (s | ⟨o, s⟩) | s
          · exact .inl (.inl (by rw [upd_ne (fun zz : a = D => by rw [zz, hD6] at s; cases s)]; exact s))
          · exact .inl (.inr ⟨o, by rw [upd_ne (fun zz : a = D => by rw [zz, hD6] at s; cases s)]; exact s⟩)
          · exact .inr s
        exact (((hacc5.keep (g7.ke p5.fC)).append (.one f7))).keep ke
  · have ei : i = ds.length := by omega
    subst ei
    rw [List.drop_length] at he
    have he : some (([] : List Pm.D), t) = some (rest, ss') := he
    cases he
    rw [List.append_nil] at hys
    subst hys
    exact .inl ⟨wk.stop F2 H2 pc2, k _ H2 F2 (g1.trans g2) p2 ⟨D, av, rfl, hHD, hacc, nF, g1.back hD⟩⟩
end
end Pm
namespace Pm
open PySem PySem.Spec PyProof.Rows L2
/-- a promise: arguments, heap, what follows; nothing is raised -/
abbrev SpG := List V → Hp → VK → Prop
/-- the def at f keeps it (where no repr is under way) -/
structure FnG (P : Program) (w : World) (K : PySem.W.Frag) (mg : Str → Option Value) (base : Heap) (k : Nat) (f : Addr) (fd : FuncData) (ps : List Str) (sp : SpG) : Prop where
  len : ∀ vs H Q, sp vs H Q → vs.length = ps.length
  run : ∀ (A : Around) (outer : List Env) (s : Shared) (H : Hp) (args : Args) (us : List Value) (vs : List V) (Q : VK), Room k A → A.guards = some [] → Env0 P w K mg base A outer s H →
    BindsTo s fd args (ps.zip us) → Vals vs us → sp vs H Q → codeAny (model P w) A (.call (.ref f) args) (CR CX0 outer P w H s Q E0) s
theorem FnG.mono {P : Program} {w : World} {K : PySem.W.Frag} {mg : Str → Option Value} {base : Heap} {j k : Nat} {f : Addr} {fd : FuncData} {ps : List Str} {sp : SpG} (F : FnG P w K mg base j f fd ps sp) (h : j ≤ k) :
    FnG P w K mg base k f fd ps sp := ⟨F.len, fun A outer s H args us vs Q hr => F.run A outer s H args us vs Q (hr.mono h)⟩
theorem deeper_guards {A : Around} {env : Env} (h : A.guards = some []) : (A.deeper env).guards = some [] := h
inductive AsOk (K : PySem.W.Frag) (g : G) (F : Addr → Prop) (H : Hp) : List AV → List V → Prop
  | nil : AsOk K g F H [] []
  | v {d : D} {x : V} {as : List AV} {xs : List V} : FD K F H x d → AsOk K g F H as xs → AsOk K g F H (.v d :: as) (x :: xs)
  | src {as : List AV} {xs : List V} : AsOk K g F H as xs → AsOk K g F H (.src :: as) (.ref g.A :: xs)
/-- the promise of a def whose meaning is f -/
def spF (K : PySem.W.Frag) (np : Nat) (f : Fn) : SpG := fun vs H Q => vs.length = np ∧ ∃ g F ss as r ss', f as ss = some (r, ss') ∧ isOut r = true ∧ At K g F ss H ∧ AsOk K g F H as vs ∧
  ∀ z H' F', Gr g F F' H H' → SrcOk g.A g.C ss' H' → RR K g F' H H' r z → Q z H'
/-- the name x of the module is such a def -/
def CallOk (P : Program) (w : World) (K : PySem.W.Frag) (mg : Str → Option Value) (base : Heap) (k : Nat) (x : Str) (f : Fn) : Prop :=
  ∃ a fd ps np, FnG P w K mg base k a fd ps (spF K np f) ∧ np = ps.length ∧ mg x = some (.ref a) ∧ PySem.W.keepIn K (.ref a) = true ∧ Binds K fd ps [] ∧ ∀ as ss r, f as ss = some r → as.length = np
section
variable {K : PySem.W.Frag} {g : G} {F F' : Addr → Prop} {H H' H0 : Hp} {ss : SS} {sl : List SV} {σ : L2.St}
theorem AsOk.mono (h : ∀ a, F a → F' a) : ∀ {as : List AV} {xs : List V}, AsOk K g F H as xs → AsOk K g F' H as xs
  | _, _, .nil => .nil
  | _, _, .v a r => .v (a.keep ⟨fun _ _ e => e, fun _ _ f e => ⟨h _ f, e⟩⟩) (AsOk.mono h r)
  | _, _, .src r => .src (AsOk.mono h r)
theorem AsOk.length : ∀ {as : List AV} {xs : List V}, AsOk K g F H as xs → as.length = xs.length
  | _, _, .nil => rfl
  | _, _, .v _ r => congrArg (· + 1) (AsOk.length r)
  | _, _, .src r => congrArg (· + 1) (AsOk.length r)
/-- the arguments as values that the callee keeps -/
theorem RRs.as (dom : ∀ a, F a → ∃ vs, H a = some (.lst vs)) (fC : ¬ F g.C) (hC : H0 g.C ≠ none) : ∀ {rs : List R} {xs : List V} {as : List AV}, RRs K g F H0 H rs xs → toAs rs = some as →
    ∃ F2 : Addr → Prop, (∀ a, F a → F2 a) ∧ (∀ a, F2 a → ∃ vs, H a = some (.lst vs)) ∧ ¬ F2 g.C ∧ AsOk K g F2 H as xs ∧ (rs.any isBo = false → ∀ a, F2 a → F a ∨ H0 a = none)
  | _, _, _, .nil, e => by cases e; exact ⟨F, fun _ h => h, dom, fC, .nil, fun _ _ h => .inl h⟩
  | r :: rs, x :: xs, as, .cons h t, e => by
    obtain ⟨a, e1, e2⟩ := bind_of e
    obtain ⟨as', e3, e4⟩ := map_of e2
    cases e4
    obtain ⟨F2, h1, h2, h3, h4, h5⟩ := RRs.as dom fC hC t e3
    have new : ∀ (p : Addr) (vs : List V) (ys : List D), H p = some (.lst vs) → FDs K F H vs ys → p ≠ g.C → (isBo r = false → H0 p = none) → toA r = some (.v (.list ys)) → x = .ref p →
        ∃ F2 : Addr → Prop, (∀ a, F a → F2 a) ∧ (∀ a, F2 a → ∃ vs, H a = some (.lst vs)) ∧ ¬ F2 g.C ∧ AsOk K g F2 H (a :: as') (x :: xs) ∧ ((r :: rs).any isBo = false → ∀ a, F2 a → F a ∨ H0 a = none) := by
      intro p vs ys q1 q2 q3 q4 q5 q6
      rw [e1] at q5
      cases q5
      subst q6
      refine ⟨fun b => F2 b ∨ b = p, fun b f => .inl (h1 b f), fun b f => ?_, fun f => ?_, .v (.lst (.inr rfl) q1 (q2.keep ⟨fun _ _ e => e, fun _ _ f e => ⟨.inl (h1 _ f), e⟩⟩)) (h4.mono fun _ f => .inl f), fun hb b f => ?_⟩
      · rcases f with f | rfl
        · exact h2 b f
        · exact ⟨vs, q1⟩
      · rcases f with f | f
        · exact h3 f
        · exact q3 f.symm
      · simp only [List.any_cons, Bool.or_eq_false_iff] at hb
        rcases f with f | rfl
        · exact h5 hb.2 b f
        · exact .inr (q4 hb.1)
    cases r with
    | v d => cases e1; exact ⟨F2, h1, h2, h3, .v (FD.keep ⟨fun _ _ e => e, fun _ _ f e => ⟨h1 _ f, e⟩⟩ h) h4, fun hb => h5 (by simp only [List.any_cons, Bool.or_eq_false_iff] at hb; exact hb.2)⟩
    | fr ys => obtain ⟨p, vs, q0, q1, q2, q3, q4⟩ := h; exact new p vs ys q1 q2 (fun z => hC (z ▸ q4)) (fun _ => q4) rfl q0
    | bo ys => obtain ⟨p, vs, q0, q1, q2, q3, q4⟩ := h; exact new p vs ys q1 q2 q3 (fun z => by cases z) rfl q0
    | src => cases e1; obtain rfl : x = _ := h; exact ⟨F2, h1, h2, h3, .src h4, fun hb => h5 (by simp only [List.any_cons, Bool.or_eq_false_iff] at hb; exact hb.2)⟩
    | _ => cases e1
theorem SrcOk.someC (s : SrcOk g.A g.C ss H) : H g.C ≠ none := by rw [s.2.1]; simp
/-- a call: its reading -/
theorem LE.call {Q : VK} {m : SS → O R} {ms : SS → O (List R)} {f : Fn} {np : Nat} (h : LE K g m sl σ H Q) (hm : ∀ ss, m ss = (ms ss).bind fun p => callD f p.1 p.2) (hl : ∀ as ss r, f as ss = some r → as.length = np) :
    LA K g ms sl σ H fun vs H1 => spF K np f vs H1 Q := by
  obtain ⟨F, ss, r, ss', e, rp, k⟩ := h
  rw [hm] at e
  obtain ⟨⟨rs, s1⟩, e1, e⟩ := bind_of e
  obtain ⟨as, e2, e⟩ := bind_of e
  obtain ⟨⟨r', s2⟩, e3, e⟩ := bind_of e
  have e4 : (isOut r' = true ∧ (rs.any isBo = true → r'.lf = true)) ∧ (r', s2) = (r, ss') := by
    by_cases hc : isOut r' = true ∧ (rs.any isBo = true → r'.lf = true)
    · exact ⟨hc, Option.some.inj ((if_pos hc).symm.trans e)⟩
    · have := (if_neg hc).symm.trans e; cases this
  obtain ⟨⟨ho, hb⟩, e4⟩ := e4
  cases e4
  refine ⟨F, ss, rs, s1, e1, rp, fun xs H1 F1 g1 p1 h1 => ?_⟩
  obtain ⟨F2, q1, q2, q3, q4, q5⟩ := h1.as g1.dom g1.fC rp.src.someC e2
  have a2 : At K g F2 s1 H1 := ⟨q2, q3, p1.src⟩
  refine ⟨by rw [← q4.length]; exact hl _ _ _ e3, g, F2, s1, as, r, ss', e3, ho, a2, q4, fun z H3 F3 g3 s3 h3 => ?_⟩
  cases hbo : rs.any isBo with
  | false =>
    have g2 : Gr g F F2 H H1 := ⟨g1.keep, fun a f => q1 a (g1.sub a f), fun a f => by
      rcases q5 hbo a f with z | z
      · exact g1.new a z
      · exact .inr z, q2, q3, g1.src⟩
    have gg := g2.trans g3
    exact k z H3 F3 gg (rp.step gg s3) (h3.early g2)
  | true =>
    have lf := hb hbo
    have g2 : Gr g F1 F1 H1 H3 := ⟨g3.keep, fun _ f => f, fun _ f => .inl f, fun a f => by
      obtain ⟨vs, e⟩ := g1.dom a f
      obtain ⟨s0, _, z0, _⟩ := g3.src
      exact ⟨vs, g3.keep a _ e (fun z => by rw [z, z0.1] at e; cases e) (fun z => g1.fC (z ▸ f))⟩, g1.fC, ⟨_, _, p1.src, s3⟩⟩
    refine k z H3 F1 (g1.trans g2) (p1.step g2 s3) ?_
    cases r with
    | v d => exact FD.free (F := F3) (H := H3) (fun _ _ e => e) h3 lf
    | fr ys =>
      obtain ⟨p, vs, w0, w1, w2, w3, w4⟩ := h3
      exact ⟨p, vs, w0, w1, FDs.free (fun _ _ e => e) w2 lf, fun f => (by obtain ⟨ws, e⟩ := g1.dom p f; rw [w4] at e; cases e), g1.back w4⟩
    | src => exact h3
    | _ => cases ho
end
section
variable {X : Cx} {k : Nat} {f : Addr} {fd : FuncData} {ps : List Str} {sp : SpG} {x : Str} {p pos : Pos} {e : Expr} {es : List Expr} {t : TA}
theorem runG {pins : List (Addr × Obj)} {σ : L2.St} {H : Hp} {s : Shared} {Q : VK} {us : List Value} {vs : List V} (F : FnG X.prog X.w X.K X.mg X.base k f fd ps sp) (hr : Room k X.A) (hg : X.A.guards = some []) (hb : Binds X.K fd ps [])
    (I : Inv X pins σ H s) (r : Vals vs us) (h : sp vs H Q) : wpAny (model X.prog X.w) X.A (call (.ref f) us) (EP X pins σ Q) X.xe s := by
  have hl : us.length = ps.length := by rw [← r.length]; exact F.len _ _ _ h
  have hb' := hb s us I.kIn (by rw [List.append_nil]; exact hl)
  rw [List.append_nil] at hb'
  refine wpAny_call (codeAny_mono (F.run X.A X.stack s H ⟨us, []⟩ us vs Q hr hg I.env0 hb' r h) fun r s' hq => ?_)
  cases r with
  | error e => exact False.elim hq
  | ok fl =>
    cases fl with
    | ret u => exact I.after hq
    | _ => exact False.elim hq
/-- f(e, ..) -/
theorem pe_callG (F : FnG X.prog X.w X.K X.mg X.base k f fd ps sp) (hr : Room k X.A) (hgu : X.A.guards = some []) (hg : Gl X x) (hm : X.mg x = some (.ref f)) (hk : PySem.W.keepIn X.K (.ref f) = true) (hb : Binds X.K fd ps [])
    (hdb : (x == ("__debug__" : Str)) = false) (ha : PA X (e :: es) t) (he : starEach (e :: es) X.env = (false, eval e X.env) :: starEach es X.env) (hpl : (backTo pos (starEach es X.env)).any (·.1) = false) :
    PE X (.Call (.Name x p) (e :: es) [] pos) (fun σ H Q => t σ H fun vs H1 => sp vs H1 Q) := by
  refine ⟨fun pins s σ H Q I h => ?_⟩
  refine wpAny_Call_Name_kw (ld_glob I hg hm ?_ hdb)
  refine PySem.W.callWith_K (h₀ := X.base) I.ok.mod.kin hk (thn (ha.run pos pins s σ H _ I h) fun us s1 ⟨vs, H1, I1, r, q⟩ => ?_) he hpl
  exact ⟨I1.kIn, runG F hr hgu hb I1 r q⟩
theorem pe_callG0 (F : FnG X.prog X.w X.K X.mg X.base k f fd ps sp) (hr : Room k X.A) (hgu : X.A.guards = some []) (hg : Gl X x) (hm : X.mg x = some (.ref f)) (hk : PySem.W.keepIn X.K (.ref f) = true) (hb : Binds X.K fd ps [])
    (hdb : (x == ("__debug__" : Str)) = false) : PE X (.Call (.Name x p) [] [] pos) (fun σ H Q => sp [] H Q) := by
  refine ⟨fun pins s σ H Q I h => ?_⟩
  refine wpAny_Call_Name_kw (ld_glob I hg hm ?_ hdb)
  exact PySem.W.callWith_K0 I.kIn hk (runG (us := []) F hr hgu hb I .nil h)
end
/-- a def, by its body -/
theorem fnG_of {P : Program} {w : World} {K : PySem.W.Frag} {mg : Str → Option Value} {base : Heap} {k : Nat} {f : Addr} {name qual : Str} {params : Arguments} {body : List Stmt} {scope : Scope} {dV kV doc pm cdv ct oc : Value} {an od : Option Addr}
    {osl : Array (Option Value)} {N ps : List Str} {sp : SpG} (lk : K.lookup f = some ⟨oc, od, .func (PySem.W.fnOf name qual params body scope dV kV doc pm an cdv ct), osl⟩) (hcd : PySem.W.codeIn K cdv qual = true) (S : FnScope N ps scope)
    (len : ∀ vs H Q, sp vs H Q → vs.length = ps.length)
    (hbody : ∀ (A : Around) (outer : List Env) (s : Shared) (H : Hp) (vs : List V) (Q : VK), Room k (A.deeper (envOfC qual scope s.heap.objs.size f cdv)) → (A.deeper (envOfC qual scope s.heap.objs.size f cdv)).guards = some [] → sp vs H Q →
      ∃ t, PSs (cxOf CX0 P w K mg base N qual scope f cdv A outer s H E0) body t ∧ t { nx := fun _ H' => Q .non H', rt := Q } (start N vs) H) :
    FnG P w K mg base (k + 1) f (PySem.W.fnOf name qual params body scope dV kV doc pm an cdv ct) ps sp := by
  refine ⟨len, fun A outer s H args us vs Q hr hg e0 hb r hsp => ?_⟩
  have hl := len _ _ _ hsp
  have base_keep : ∀ b o, base.get? b = some o → s.heap.get? b = some o := fun b o e => (e0.bs b o e).1
  have KX : K.In s.heap := e0.mod.kin.keeps base_keep
  refine codeAny_call_function hr.depth (KX _ _ lk) rfl S.co S.gen rfl (PySem.W.codeRec_of KX hcd) (hb _ _ _ _ ?_)
  refine wpAny_newFunctionEnv_cells S.kind (fun ⟨n, v⟩ hy => ?_) fun env he s1 x => ?_
  · exact (S.par n (List.of_mem_zip hy).1).elim .inl fun q => .inr ⟨q, PySem.W.cellsFrom_some _ _ _ (.inl q)⟩
  subst he
  have lim : s.heap.NoLimit := e0.mod.nolimit.keeps base_keep
  refine ⟨lim.keeps x.toInCall.keep, codeAny_func ?_⟩
  obtain ⟨t, ht, hq⟩ := hbody A outer s H vs Q (hr.deeper _) (deeper_guards hg) hsp
  have I := inv_start (CX := CX0) (E := E0) S hr.hd e0 hl r x
  refine wpAny_mono (ht.run [] s1 (start N vs) H _ I hq) (fun fl s' hs => ?_) fun e s' hs => hs
  have fin : ∀ {σ' : L2.St} {H' : Hp} {v : V} {u : Value}, Inv (cxOf CX0 P w K mg base N qual scope f cdv A outer s H E0) [] σ' H' s' → RelV v u → Q v H' → L2.CE outer P w H s Q u s' :=
    fun {_ H' v _} J rv q => ⟨v, H', J.os, J.bare, J.base, J.hok, rv, q⟩
  cases fl with
  | ret u => obtain ⟨v, σ', H', J, rv, q⟩ := hs; exact fin J rv q
  | next => obtain ⟨σ', H', J, q⟩ := hs; exact fin (v := V.non) (u := Value.none) J rfl q
  | brk => obtain ⟨_, _, _, q⟩ := hs; exact False.elim q
  | cont => obtain ⟨_, _, _, q⟩ := hs; exact False.elim q
end Pm
namespace Pm
open PySem PySem.Spec PyProof.Rows L2
/-! ### does a core term say what the text says -/
def visB (sc : Scope) (x : Str) : Bool := match sc.names.lookup x with
  | some .local => true | some .cell => true | some .free => true | _ => false
def locB (sc : Scope) (x : Str) : Bool := match sc.names.lookup x with
  | some .local => true | some .cell => true | _ => false
def gloB (sc : Scope) (x : Str) : Bool := sc.names.lookup x == some .globalImplicit
def noDbg (x : Str) : Bool := !(x == ("__debug__" : Str)) && !(x == ("__classdict__" : Str))
def cstB : D → Const → Bool
  | .none, .none => true
  | .bool b, .bool c => b == c
  | .int i, .int j => i == j
  | .str x, .str y => x == y
  | _, _ => false
def bopB : BOp → Operator → Bool
  | .add, .Add => true | .sub, .Sub => true | .mul, .Mult => true | .fdiv, .FloorDiv => true | .mod, .Mod => true | .pow, .Pow => true
  | _, _ => false
def noneB : Expr → Bool
  | .Constant .none _ _ => true
  | _ => false
def boolB (b : Bool) : Expr → Bool
  | .Constant (.bool c) _ _ => b == c
  | _ => false
def setB : Expr → Bool
  | .Set _ _ _ => true
  | _ => false
def copB : COp → CmpOp → Expr → Bool
  | .eq, .Eq, _ => true | .ne, .NotEq, _ => true | .lt, .Lt, _ => true | .le, .LtE, _ => true | .gt, .Gt, _ => true | .ge, .GtE, _ => true
  | .isin, .In, e => !setB e | .notin, .NotIn, e => !setB e
  | .isn, .Is, e => noneB e | .notn, .IsNot, e => noneB e
  | .isb b, .Is, e => boolB b e | .notb b, .IsNot, e => boolB b e
  | _, _, _ => false
def biName : Bi → Str
  | .len => "len" | .int => "int" | .abs => "abs" | .max2 => "max" | .min2 => "min" | .max1 => "max" | .min1 => "min" | .sum => "sum" | .all => "all" | .any => "any"
  | .list => "list" | .tuple => "tuple" | .sorted => "sorted" | .repr => "repr" | .isint => "isinstance" | .isbool => "isinstance" | .istuple => "isinstance" | .isstr => "isinstance" | .islist => "isinstance"
  | _ => "?"
def biIs : Bi → Option String
  | .isint => some "int" | .isbool => some "bool" | .istuple => some "tuple" | .isstr => some "str" | .islist => some "list"
  | _ => none
def biPlain : Bi → Bool
  | .len | .int | .abs | .max2 | .min2 | .max1 | .min1 | .sum | .all | .any | .list | .tuple | .sorted | .repr => true
  | _ => false
def bltNames : List Str := ["len", "int", "abs", "max", "min", "sum", "all", "any", "list", "tuple", "sorted", "repr", "isinstance", "range", "enumerate", "bool", "str"]
def starB : Expr → Bool
  | .Starred _ _ => true
  | _ => false
def SK.name : SK → Str
  | .left => "left"
  | .mixed => "mixed"
  | .turn => "turn"
mutual
/-- a target; st: the names that may be stored -/
def chkT (st : Str → Bool) (N : List Str) : TGt → Expr → Bool
  | .one i, .Name x _ => N[i]? == some x && st x
  | .tup ts, .Tuple es _ _ => chkTs st N ts es
  | _, _ => false
def chkTs (st : Str → Bool) (N : List Str) : List TGt → List Expr → Bool
  | [], [] => true
  | t :: ts, e :: es => chkT st N t e && chkTs st N ts es
  | _, _ => false
end
mutual
def TGt.names (N : List Str) : TGt → List (Str × Nat)
  | .one i => [(N.getD i "", i)]
  | .tup ts => TGt.namess N ts
def TGt.namess (N : List Str) : List TGt → List (Str × Nat)
  | [] => []
  | t :: ts => t.names N ++ TGt.namess N ts
end
/-- a comprehension's block -/
def blkB (N : List Str) (sc scope : Scope) (own : List (Str × Nat)) : Bool :=
  (scope.kind == .function) && scope.names.all (fun y => scope.names.lookup y.1 == some y.2) && own.all (fun p => N[p.2]? == some p.1) &&
  scope.names.all (fun y => !(y.2 == .free) || sc.names.lookup y.1 == some .cell || sc.names.lookup y.1 == some .free) &&
  scope.names.all (fun y => !(y.2 == .local || y.2 == .cell) || (own.map (·.1)).contains y.1 || !N.contains y.1)
def revB : Expr → Bool
  | .Slice none none (some (.UnaryOp .USub (.Constant (.int 1) _ _) _)) _ => true
  | _ => false
def rangeB (sc : Scope) (x : Str) : Bool := x == "range" && gloB sc "range"
/-- a value, no mere thing to be walked -/
def vl : CE → Bool
  | .rg1 _ | .rg2 _ _ | .rg3 _ _ _ | .enm _ | .zip _ _ | .star _ | .nop => false
  | _ => true
def tupB : Expr → Bool
  | .Tuple _ _ _ => true
  | _ => false
def enB : CE → Bool
  | .enm _ => true
  | .zip _ _ => true
  | _ => false
def meName : Me → Str
  | .index => "index" | .count => "count" | _ => "?"
/-- o.m: no super() -/
def baseB : Expr → Bool
  | .Call (.Name _ _) [] [] _ => false
  | _ => true
def inB : Bool → CmpOp → Bool
  | true, .In => true
  | false, .NotIn => true
  | _, _ => false
mutual
def chkE (sc : Scope) (N : List Str) : CE → Expr → Bool
  | .lit d, .Constant c _ _ => cstB d c
  | .loc i, .Name x _ => N[i]? == some x && visB sc x && noDbg x
  | .glo y _, .Name x _ => x == y && gloB sc x && noDbg x
  | .bin o a b, .BinOp l p r _ => bopB o p && vl a && chkE sc N a l && vl b && chkE sc N b r
  | .neg a, .UnaryOp p e _ => (p == .USub) && vl a && chkE sc N a e
  | .not a, .UnaryOp p e _ => (p == .Not) && vl a && chkE sc N a e
  | .and a b, .BoolOp p (x :: y :: rest) pos => (p == .And) && vl a && chkE sc N a x && vl b && (match rest with | [] => chkE sc N b y | _ => chkE sc N b (.BoolOp .And (y :: rest) pos))
  | .or a b, .BoolOp p (x :: y :: rest) pos => (p == .Or) && vl a && chkE sc N a x && vl b && (match rest with | [] => chkE sc N b y | _ => chkE sc N b (.BoolOp .Or (y :: rest) pos))
  | .cmp o a b, .Compare l [p] [r] _ => copB o p r && vl a && chkE sc N a l && vl b && chkE sc N b r
  | .cmp2 o o' a b c, .Compare l [p, p'] [r, r'] _ => copB o p r && copB o' p' r' && !setB r && !setB r' && vl a && chkE sc N a l && vl b && chkE sc N b r && vl c && chkE sc N c r'
  | .ife c a b, .IfExp t x y _ => vl c && chkE sc N c t && vl a && chkE sc N a x && vl b && chkE sc N b y
  | .tup es, e => match e with
    | .Tuple xs _ _ => chkX sc N es xs
    | .Call (.Name x _) [e] [] _ => (x == "tuple" && gloB sc "tuple") && chkR sc N es e
    | _ => false
  | .lst es, e => match e with
    | .List xs _ => chkX sc N es xs
    | .Call (.Name x _) [e] [] _ => (x == "list" && gloB sc "list") && chkR sc N es e
    | _ => false
  | .lc elt tg it cond, .ListComp e [⟨t, i, ifs, as⟩] scope _ => (as == 0) && blkB N sc scope (tg.names N) && chkT (fun x => locB scope x) N tg t && (!enB it || tupB t) && chkE sc N it i && !setB i &&
      vl elt && chkE (relS scope sc) N elt e && chkA (relS scope sc) N cond ifs && decide (ifs.length ≤ 1)
  | .idx a i, .Subscript x y _ => vl a && chkE sc N a x && vl i && chkE sc N i y
  | .sli a lo hi, .Subscript x (.Slice l u s _) _ => s.isNone && vl a && chkE sc N a x && (match l with | none => isNop lo | some l => !isNop lo && vl lo && chkE sc N lo l) && (match u with | none => isNop hi | some u => !isNop hi && vl hi && chkE sc N hi u)
  | .rev a, .Subscript x s _ => revB s && vl a && chkE sc N a x
  | .bi f es, .Call (.Name x _) args [] _ => (x == biName f) && gloB sc x && (match biIs f with
      | some T => chkIs sc N T es args
      | none => biPlain f && chkA sc N es args && !args.isEmpty)
  | .call y _ es, .Call (.Name x _) args [] _ => (x == y) && gloB sc x && noDbg x && chkA sc N es args
  | .rg1 a, .Call (.Name x _) [e] [] _ => rangeB sc x && vl a && chkE sc N a e
  | .rg2 a b, .Call (.Name x _) [e, f] [] _ => rangeB sc x && vl a && chkE sc N a e && vl b && chkE sc N b f
  | .sget k i, .Subscript (.Name x _) (.Constant (.str y) _ _) _ => N[i]? == some x && visB sc x && noDbg x && (y == k.name)
  | .slen i, .Call (.Name f _) [.Subscript (.Name x _) (.Constant (.str y) _ _) _] [] _ => (f == "len") && gloB sc f && N[i]? == some x && visB sc x && noDbg x && (y == "cells")
  | .met m o es, .Call (.Attribute oe x ap) [a] [] cp => (x == meName m) && (ap.endLine == cp.line) && baseB oe && vl o && chkE sc N o oe && chkA sc N es [a]
  | .newk, .Dict [] [] _ => true
  | .dhas b k i, .Compare l [p] [.Name x _] _ => inB b p && N[i]? == some x && visB sc x && noDbg x && vl k && chkE sc N k l
  | .dget i k, .Subscript (.Name x _) ke _ => N[i]? == some x && visB sc x && noDbg x && vl k && chkE sc N k ke
  | .dget2 i k d, .Call (.Attribute (.Name x _) m ap) [a, b] [] cp => N[i]? == some x && visB sc x && noDbg x && (m == "get") && (ap.endLine == cp.line) && vl k && chkE sc N k a && vl d && chkE sc N d b
  | .enm a, .Call (.Name x _) [e] [] _ => (x == "enumerate" && gloB sc "enumerate") && vl a && chkE sc N a e
  | _, _ => false
/-- arguments -/
def chkA (sc : Scope) (N : List Str) : List CE → List Expr → Bool
  | [], [] => true
  | c :: cs, e :: es => vl c && chkE sc N c e && chkA sc N cs es
  | _, _ => false
def chkIs (sc : Scope) (N : List Str) (T : String) : List CE → List Expr → Bool
  | [c], [e, .Name t _] => t == (T : Str) && gloB sc t && vl c && chkE sc N c e
  | _, _ => false
/-- a display's items -/
def chkX (sc : Scope) (N : List Str) : List CE → List Expr → Bool
  | [], [] => true
  | c :: cs, e :: es => (match c, e with
    | .star (.rg1 a), .Starred (.Call (.Name x _) [e] [] _) _ => rangeB sc x && vl a && chkE sc N a e
    | .star (.rg2 a b), .Starred (.Call (.Name x _) [e, f] [] _) _ => rangeB sc x && vl a && chkE sc N a e && vl b && chkE sc N b f
    | .star c, .Starred e _ => vl c && chkE sc N c e
    | c, e => vl c && chkE sc N c e) && chkX sc N cs es
  | _, _ => false
/-- a range, as a value -/
def chkR (sc : Scope) (N : List Str) : List CE → Expr → Bool
  | [.star (.rg1 a)], .Call (.Name x _) [e] [] _ => rangeB sc x && vl a && chkE sc N a e
  | [.star (.rg2 a b)], .Call (.Name x _) [e, f] [] _ => rangeB sc x && vl a && chkE sc N a e && vl b && chkE sc N b f
  | _, _ => false
end
end Pm
namespace Pm
open PySem PySem.Spec PyProof.Rows L2
mutual
def calls : Pm.CE → List (Str × Fn)
  | .bin _ a b => calls a ++ calls b
  | .neg a => calls a
  | .not a => calls a
  | .and a b => calls a ++ calls b
  | .or a b => calls a ++ calls b
  | .cmp _ a b => calls a ++ calls b
  | .cmp2 _ _ a b c => calls a ++ calls b ++ calls c
  | .ife a b c => calls a ++ calls b ++ calls c
  | .tup es => callss es
  | .lst es => callss es
  | .star e => calls e
  | .lc e _ it cond => calls e ++ calls it ++ callss cond
  | .rg1 a => calls a
  | .rg2 a b => calls a ++ calls b
  | .rg3 a b c => calls a ++ calls b ++ calls c
  | .enm a => calls a
  | .zip a b => calls a ++ calls b
  | .idx a b => calls a ++ calls b
  | .sli a b c => calls a ++ calls b ++ calls c
  | .rev a => calls a
  | .bi _ es => callss es
  | .met _ o es => calls o ++ callss es
  | .call x f es => (x, f) :: callss es
  | .dhas _ k _ => calls k
  | .dget _ k => calls k
  | .dget2 _ k d => calls k ++ calls d
  | _ => []
def callss : List Pm.CE → List (Str × Fn)
  | [] => []
  | c :: cs => calls c ++ callss cs
end
mutual
def globs : Pm.CE → List (Str × D)
  | .glo x d => [(x, d)]
  | .bin _ a b => globs a ++ globs b
  | .neg a => globs a
  | .not a => globs a
  | .and a b => globs a ++ globs b
  | .or a b => globs a ++ globs b
  | .cmp _ a b => globs a ++ globs b
  | .cmp2 _ _ a b c => globs a ++ globs b ++ globs c
  | .ife a b c => globs a ++ globs b ++ globs c
  | .tup es => globss es
  | .lst es => globss es
  | .star e => globs e
  | .lc e _ it cond => globs e ++ globs it ++ globss cond
  | .rg1 a => globs a
  | .rg2 a b => globs a ++ globs b
  | .rg3 a b c => globs a ++ globs b ++ globs c
  | .enm a => globs a
  | .zip a b => globs a ++ globs b
  | .idx a b => globs a ++ globs b
  | .sli a b c => globs a ++ globs b ++ globs c
  | .rev a => globs a
  | .bi _ es => globss es
  | .met _ o es => globs o ++ globss es
  | .call _ _ es => globss es
  | .dhas _ k _ => globs k
  | .dget _ k => globs k
  | .dget2 _ k d => globs k ++ globs d
  | _ => []
def globss : List Pm.CE → List (Str × D)
  | [] => []
  | c :: cs => globs c ++ globss cs
end
def GlobOk (K : PySem.W.Frag) (mg : Str → Option Value) (x : Str) (d : D) : Prop := ∃ u v, mg x = some u ∧ RelV v u ∧ ∀ F H, FD K F H v d
def CallsOk (X : Cx) (j : Nat) (l : List (Str × Fn)) : Prop := ∀ p ∈ l, ∃ k, k ≤ j ∧ CallOk X.prog X.w X.K X.mg X.base k p.1 p.2
def GlobsOk (X : Cx) (l : List (Str × D)) : Prop := ∀ p ∈ l, GlobOk X.K X.mg p.1 p.2
theorem CallsOk.app {X : Cx} {j : Nat} {l m : List (Str × Fn)} (h : CallsOk X j (l ++ m)) : CallsOk X j l ∧ CallsOk X j m :=
  ⟨fun p hp => h p (List.mem_append_left _ hp), fun p hp => h p (List.mem_append_right _ hp)⟩
theorem GlobsOk.app {X : Cx} {l m : List (Str × D)} (h : GlobsOk X (l ++ m)) : GlobsOk X l ∧ GlobsOk X m :=
  ⟨fun p hp => h p (List.mem_append_left _ hp), fun p hp => h p (List.mem_append_right _ hp)⟩
structure Good (X : Cx) (j : Nat) : Prop where
  nd : X.N.Nodup
  calm : X.calm = true
  room : Room j X.A
  gu : X.A.guards = some []
  blt : ∀ x ∈ bltNames, X.mg x = none
theorem Good.u {X : Cx} {j : Nat} (h : Good X j) : X.A.units + 100 < cLine := by have := h.room.un; omega
theorem Good.blk {X : Cx} {j : Nat} (h : Good X j) (s : Shared) (H : Hp) (scope : Scope) (cenv : Env) (fp : List Addr) : Good (X.blk s H scope cenv fp) j := ⟨h.nd, h.calm, h.room, h.gu, h.blt⟩
/-! ### what chk says of the text -/
theorem chk_star {sc : Scope} {N : List Str} {c : Pm.CE} {e : Expr} (h : chkE sc N c e = true) : ∀ v p, e ≠ .Starred v p := by
  rintro v p rfl
  cases c <;> exact absurd h Bool.false_ne_true
theorem star_cons {e : Expr} {es : List Expr} {env : Env} (h : ∀ v p, e ≠ .Starred v p) : starEach (e :: es) env = (false, eval e env) :: starEach es env := by
  cases e <;> first | rfl | exact absurd rfl (h _ _)
theorem chk_ix {sc : Scope} {N : List Str} {c : Pm.CE} {e : Expr} (h : chkE sc N c e = true) : PlainIx e := by
  cases e with
  | Slice l u s p => cases c <;> exact absurd h Bool.false_ne_true
  | _ => exact fun _ _ => rfl
theorem chkA_any {sc : Scope} {N : List Str} {pos : Pos} {env : Env} : ∀ {cs : List Pm.CE} {es : List Expr}, chkA sc N cs es = true → (backTo pos (starEach es env)).any (·.1) = false
  | [], [], _ => rfl
  | [], _ :: _, h => absurd h Bool.false_ne_true
  | _ :: _, [], h => absurd h Bool.false_ne_true
  | c :: cs, e :: es, h => by
    have h : (vl c && chkE sc N c e && chkA sc N cs es) = true := h
    simp only [Bool.and_eq_true] at h
    rw [star_cons (chk_star h.1.2)]
    exact chkA_any h.2
theorem vis_of {sc : Scope} {x : Str} (h : visB sc x = true) : Vis sc x := by
  unfold visB at h
  split at h
  · exact .inl ‹_›
  · exact .inr (.inl ‹_›)
  · exact .inr (.inr ‹_›)
  · cases h
theorem loc_of {sc : Scope} {x : Str} (h : locB sc x = true) : Loc sc x := by
  unfold locB at h
  split at h
  · exact .inl ‹_›
  · exact .inr ‹_›
  · cases h
theorem gl_of {X : Cx} {x : Str} (h : gloB X.env.scope x = true) : Gl X x := eq_of_beq h
theorem dbg_of {x : Str} (h : noDbg x = true) : (x == ("__debug__" : Str)) = false ∧ (x == ("__classdict__" : Str)) = false := by
  unfold noDbg at h
  simp only [Bool.and_eq_true, Bool.not_eq_true'] at h
  exact h
theorem lit_ok {X : Cx} {g : G} {sl : List SV} {d : D} {c : Const} {k : Nat} {pos : Pos} (h : cstB d c = true) : PE X (.Constant c k pos) (LE X.K g (ev (.lit d) sl) sl) := by
  cases d <;> cases c <;> first | exact absurd h Bool.false_ne_true | skip
  · exact PE.imp pe_non fun σ H Q q => LE.lit q (fun _ => rfl) fun _ => .non
  · rename_i b c
    obtain rfl : b = c := eq_of_beq h
    exact PE.imp pe_bl fun σ H Q q => LE.lit q (fun _ => rfl) fun _ => .bl _
  · rename_i i j
    obtain rfl : i = j := eq_of_beq h
    exact PE.imp pe_int fun σ H Q q => LE.lit q (fun _ => rfl) fun _ => .int _
  · rename_i x y
    obtain rfl : x = y := eq_of_beq h
    exact PE.imp pe_str fun σ H Q q => LE.lit q (fun _ => rfl) fun _ => .str _
/-- the operator of a comparison -/
theorem cop_ok {X : Cx} {j : Nat} {g : G} {o : COp} {p : CmpOp} {r : Expr} (G : Good X j) (h : copB o p r = true) (hN : ∀ b, o ≠ .isn ∧ o ≠ .notn ∧ o ≠ .isb b ∧ o ≠ .notb b) :
    OpR X (compareOp p) (rC X.K g (cmpD o)) ∧ behindInMarks p r = false := by
  have u := G.u
  have hs : ∀ q : CmpOp, setB r = false → behindInMarks q r = false := fun q hs => by
    cases r <;> first | rfl | exact absurd hs Bool.noConfusion
  cases o <;> cases p <;> first | exact absurd h Bool.false_ne_true | skip
  · exact ⟨op_eqG (by omega), nomark _⟩
  · exact ⟨op_neG (by omega), nomark _⟩
  · exact ⟨op_ordG op_lt, nomark _⟩
  · exact ⟨op_ordG op_le, nomark _⟩
  · exact ⟨op_ordG op_gt, nomark _⟩
  · exact ⟨op_ordG op_ge, nomark _⟩
  · have h : (!setB r) = true := h
    exact ⟨op_inG (by omega), hs _ (by simpa using h)⟩
  · have h : (!setB r) = true := h
    exact ⟨op_notInG (by omega), hs _ (by simpa using h)⟩
  · exact absurd rfl (hN true).1
  · exact absurd rfl (hN true).2.1
  · exact absurd rfl (hN _).2.2.1
  · exact absurd rfl (hN _).2.2.2
/-- x is None .. -/
def rNone (K : PySem.W.Frag) (g : G) (f : D → D → Option Bool) : R2 := fun x y H Q => ∃ F ss dx dy b, At K g F ss H ∧ RD K F H x dx ∧ RD K F H y dy ∧ f dx dy = some b ∧ Kt K g F ss H (bl b) Q
theorem op_isnG {X : Cx} {g : G} : OpR X (compareOp .Is) (fun x y H Q => ∃ F ss dx b, At X.K g F ss H ∧ RD X.K F H x dx ∧ y = .non ∧ cmpD .isn dx .none = some b ∧ Kt X.K g F ss H (bl b) Q) := by
  intro pins s σ H x y v u Q I rx ry ⟨F, ss, dx, b, a, hx, hy, e, k⟩
  cases e
  exact op_isN pins s σ H x y v u Q I rx ry ⟨hy, by rw [isNone_of hx]; exact k.val a (.bl _)⟩
theorem op_notnG {X : Cx} {g : G} : OpR X (compareOp .IsNot) (fun x y H Q => ∃ F ss dx b, At X.K g F ss H ∧ RD X.K F H x dx ∧ y = .non ∧ cmpD .notn dx .none = some b ∧ Kt X.K g F ss H (bl b) Q) := by
  intro pins s σ H x y v u Q I rx ry ⟨F, ss, dx, b, a, hx, hy, e, k⟩
  cases e
  exact op_notN pins s σ H x y v u Q I rx ry ⟨hy, by rw [isNone_of hx]; exact k.val a (.bl _)⟩
/-- every comparison by its literal right side -/
theorem cop2_ok {X : Cx} {j : Nat} {g : G} {o : COp} {p : CmpOp} {r : Expr} (G : Good X j) (h : copB o p r = true) :
    behindInMarks p r = false ∧ OpR X (compareOp p) (fun x y H Q => ∃ F ss dx dy b, At X.K g F ss H ∧ RD X.K F H x dx ∧ RD X.K F H y dy ∧ ((noneB r = true → y = .non) ∧ (∀ c, boolB c r = true → y = .bl c)) ∧ cmpD o dx dy = some b ∧ Kt X.K g F ss H (bl b) Q) := by
  cases o with
  | isn =>
    cases p <;> first | exact absurd h Bool.false_ne_true | skip
    exact ⟨nomark _, fun pins s σ H x y v u Q I rx ry ⟨F, ss, dx, dy, b, a, hx, hy, z, e, k⟩ => op_isnG (g := g) pins s σ H x y v u Q I rx ry ⟨F, ss, dx, b, a, hx, z.1 h, e, k⟩⟩
  | notn =>
    cases p <;> first | exact absurd h Bool.false_ne_true | skip
    exact ⟨nomark _, fun pins s σ H x y v u Q I rx ry ⟨F, ss, dx, dy, b, a, hx, hy, z, e, k⟩ => op_notnG (g := g) pins s σ H x y v u Q I rx ry ⟨F, ss, dx, b, a, hx, z.1 h, e, k⟩⟩
  | isb c =>
    cases p <;> first | exact absurd h Bool.false_ne_true | skip
    refine ⟨nomark _, fun pins s σ H x y v u Q I rx ry ⟨F, ss, dx, dy, b, a, hx, hy, z, e, k⟩ => ?_⟩
    cases dx <;> first | (cases e; done) | skip
    rename_i b'
    obtain rfl := hx.bool
    obtain rfl := z.2 c h
    cases e
    exact op_isBl pins s σ H _ _ v u Q I rx ry ⟨_, _, rfl, rfl, by rw [← Bool.beq_eq_decide_eq]; exact k.val a (.bl _)⟩
  | notb c =>
    cases p <;> first | exact absurd h Bool.false_ne_true | skip
    refine ⟨nomark _, fun pins s σ H x y v u Q I rx ry ⟨F, ss, dx, dy, b, a, hx, hy, z, e, k⟩ => ?_⟩
    cases dx <;> first | (cases e; done) | skip
    rename_i b'
    obtain rfl := hx.bool
    obtain rfl := z.2 c h
    cases e
    exact op_notBl pins s σ H _ _ v u Q I rx ry ⟨_, _, rfl, rfl, by rw [← Bool.beq_eq_decide_eq]; exact k.val a (.bl _)⟩
  | _ =>
    obtain ⟨h1, h2⟩ := cop_ok (g := g) G h (fun b => ⟨by simp, by simp, by simp, by simp⟩)
    exact ⟨h2, fun pins s σ H x y v u Q I rx ry ⟨F, ss, dx, dy, b, a, hx, hy, _, e, k⟩ => h1 pins s σ H x y v u Q I rx ry ⟨F, ss, dx, dy, b, a, hx, hy, e, k⟩⟩
end Pm
namespace Pm
open PySem PySem.Spec PyProof.Rows L2
def rCx (K : PySem.W.Frag) (g : G) (o : COp) (r : Expr) : R2 := fun x y H Q => ∃ F ss dx dy b, At K g F ss H ∧ RD K F H x dx ∧ RD K F H y dy ∧ ((noneB r = true → y = .non) ∧ (∀ c, boolB c r = true → y = .bl c)) ∧ cmpD o dx dy = some b ∧ Kt K g F ss H (bl b) Q
def LitOf (r : Expr) (m : SS → O R) : Prop := ∀ ss rb s, m ss = some (rb, s) → (noneB r = true → rb = .v .none) ∧ ∀ c, boolB c r = true → rb = .v (.bool c)
section
variable {K : PySem.W.Frag} {g : G} {sl : List SV} {σ : L2.St} {H : Hp} {Q : VK} {ma mb mc m : SS → O R} {r r' : Expr}
theorem LitOf.use {F : Addr → Prop} {H0 : Hp} {ss s : SS} {rb : R} {y : V} (h : LitOf r mb) (e : mb ss = some (rb, s)) (hy : RR K g F H0 H rb y) : (noneB r = true → y = .non) ∧ (∀ c, boolB c r = true → y = .bl c) := by
  obtain ⟨h1, h2⟩ := h _ _ _ e
  refine ⟨fun z => ?_, fun c z => ?_⟩
  · rw [h1 z] at hy
    have hy : FD K F H y .none := hy
    cases hy; rfl
  · rw [h2 c z] at hy
    have hy : FD K F H y (.bool c) := hy
    cases hy; rfl
theorem LE.cmpx {o : COp} (hm : ∀ ss, m ss = (toD (ma ss)).bind fun p => (toD (mb p.2)).bind fun q => (cmpD o p.1 q.1).map fun r => (bl r, q.2)) (hl : LitOf r mb) (h : LE K g m sl σ H Q) :
    tOp (rCx K g o r) (LE K g ma sl) (LE K g mb sl) σ H Q := by
  obtain ⟨F, ss, r0, ss', e, rp, k⟩ := h
  rw [hm] at e
  obtain ⟨⟨da, s1⟩, e1, e⟩ := bind_of e
  obtain ⟨⟨db, s2⟩, e2, e⟩ := bind_of e
  obtain ⟨r', e3, e4⟩ := map_of e
  cases e4
  obtain ⟨ra, ea, e1⟩ := O.f_of e1
  obtain ⟨rb, eb, e2⟩ := O.f_of e2
  exact ⟨F, ss, ra, s1, ea, rp, fun x H1 F1 g1 p1 h1 => ⟨F1, s1, rb, _, eb, p1, fun y H2 F2 g2 p2 h2 =>
    ⟨F2, _, da, db, r', p2.at, (h1.keep g2 p1.fC g1).rd e1, h2.rd e2, hl.use eb h2, e3, fun z H3 F3 g3 s3 h3 => k z H3 F3 (g1.trans (g2.trans g3)) (p2.step g3 s3) (h3.early (g1.trans g2))⟩⟩⟩
theorem LE.chainx {o o' : COp} (h : LE K g m sl σ H Q) (hl : LitOf r mb) (hl' : LitOf r' mc) (hm : ∀ ss, m ss = (toD (ma ss)).bind fun p => (toD (mb p.2)).bind fun q => (cmpD o p.1 q.1).bind fun r =>
      if r then (toD (mc q.2)).bind fun t => (cmpD o' q.1 t.1).map fun r => (Pm.bl r, t.2) else some (Pm.bl false, q.2)) :
    tChain (rCx K g o r) (rCx K g o' r') (LE K g ma sl) (LE K g mb sl) (LE K g mc sl) σ H Q := by
  obtain ⟨F, ss, r0, ss', e, rp, k⟩ := h
  rw [hm] at e
  obtain ⟨⟨da, s1⟩, e1, e⟩ := bind_of e
  obtain ⟨⟨db, s2⟩, e2, e⟩ := bind_of e
  obtain ⟨c, e3, e⟩ := bind_of e
  obtain ⟨ra, ea, e1⟩ := O.f_of e1
  obtain ⟨rb, eb, e2⟩ := O.f_of e2
  refine ⟨F, ss, ra, s1, ea, rp, fun x H1 F1 g1 p1 h1 => ⟨F1, s1, rb, _, eb, p1, fun y H2 F2 g2 p2 h2 =>
    ⟨F2, _, da, db, c, p2.at, (h1.keep g2 p1.fC g1).rd e1, h2.rd e2, hl.use eb h2, e3, fun z H3 F3 g3 s3 h3 => ⟨c, h3.bl, ?_⟩⟩⟩⟩
  have p3 := p2.step g3 s3
  have h2' := h2.keep g3 p2.fC g2
  cases c with
  | false =>
    rw [if_neg Bool.false_ne_true] at e ⊢
    cases e
    exact k _ H3 F3 (g1.trans (g2.trans g3)) p3 (FD.bl false)
  | true =>
    rw [if_pos rfl] at e ⊢
    obtain ⟨⟨dc, s4⟩, e4, e⟩ := bind_of e
    obtain ⟨r', e5, e6⟩ := map_of e
    cases e6
    obtain ⟨rc, ec, e4⟩ := O.f_of e4
    exact ⟨F3, s2, rc, _, ec, p3, fun w H4 F4 g4 p4 h4 => ⟨F4, _, db, dc, r', p4.at, (h2'.keep g4 p3.fC (g2.trans g3)).rd e2, h4.rd e4, hl'.use ec h4, e5, fun u H5 F5 g5 s5 h5 =>
      k u H5 F5 (g1.trans (g2.trans (g3.trans (g4.trans g5)))) (p4.step g5 s5) (h5.early (g1.trans (g2.trans (g3.trans g4))))⟩⟩
/-- a test that is a value, here a comparison -/
theorem LT.test {t : TE} (ht : ∀ Q, LE K g m sl σ H Q → t σ H Q) {Qb : Bool → Hp → Prop} (h : LT K g (fun ss => toB (m ss)) sl σ H Qb) : tTest t σ H Qb := by
  obtain ⟨F, ss, r, ss', e, rp, k⟩ := h
  obtain ⟨ra, ea, e1⟩ := O.f_of e
  obtain rfl := asB_of e1
  exact ht _ ⟨F, ss, _, _, ea, rp, fun x H1 F1 g1 p1 h1 => ⟨r, h1.bl, k H1 F1 g1 p1⟩⟩
end
theorem lit_of {sc : Scope} {N : List Str} {c : Pm.CE} {r : Expr} {sl : List SV} (h : chkE sc N c r = true) : LitOf r (ev c sl) := by
  intro ss rb s e
  have key : ∀ d k pos, r = .Constant d k pos → ∃ x, c = .lit x ∧ cstB x d = true := by
    rintro d k pos rfl
    cases c <;> first | exact absurd h Bool.false_ne_true | exact ⟨_, rfl, h⟩
  refine ⟨fun z => ?_, fun b z => ?_⟩
  · cases r with
    | Constant d k pos =>
      obtain ⟨x, rfl, hx⟩ := key d k pos rfl
      cases d <;> first | exact absurd z Bool.false_ne_true | skip
      cases x <;> first | exact absurd hx Bool.false_ne_true | skip
      cases e; rfl
    | _ => exact absurd z Bool.false_ne_true
  · cases r with
    | Constant d k pos =>
      obtain ⟨x, rfl, hx⟩ := key d k pos rfl
      cases d <;> first | exact absurd z Bool.false_ne_true | skip
      cases x <;> first | exact absurd hx Bool.false_ne_true | skip
      cases e
      rw [show b = _ from eq_of_beq z, show _ = _ from eq_of_beq hx]
    | _ => exact absurd z Bool.false_ne_true
theorem nb_add {x y : D} {r : R} (e : addD x y = some r) : isBo r = false := by unfold addD at e; split at e <;> (try split at e) <;> cases e <;> rfl
theorem nb_sub {x y : D} {r : R} (e : subD x y = some r) : isBo r = false := by unfold subD at e; split at e <;> (try split at e) <;> cases e <;> rfl
theorem nb_mul {x y : D} {r : R} (e : mulD x y = some r) : isBo r = false := by unfold mulD at e; split at e <;> (try split at e) <;> cases e <;> rfl
theorem nb_fdiv {x y : D} {r : R} (e : fdivD x y = some r) : isBo r = false := by unfold fdivD at e; split at e <;> (try split at e) <;> cases e <;> rfl
theorem nb_mod {x y : D} {r : R} (e : modD x y = some r) : isBo r = false := by unfold modD at e; split at e <;> (try split at e) <;> cases e <;> rfl
theorem nb_pow {x y : D} {r : R} (e : powD x y = some r) : isBo r = false := by unfold powD at e; split at e <;> (try split at e) <;> cases e <;> rfl
theorem nb_bin {o : BOp} {x y : D} {r : R} (e : binD o x y = some r) : isBo r = false := by
  cases o
  · exact nb_add e
  · exact nb_sub e
  · exact nb_mul e
  · exact nb_fdiv e
  · exact nb_mod e
  · exact nb_pow e
theorem nb_sli {x y z : D} {r : R} (e : sliD x y z = some r) : isBo r = false := by
  unfold sliD at e
  split at e
  · obtain ⟨a, _, rfl⟩ := map_of e; rfl
  · obtain ⟨a, _, rfl⟩ := map_of e; rfl
  · cases e
theorem nb_rev {x : D} {r : R} (e : revD x = some r) : isBo r = false := by unfold revD at e; split at e <;> cases e <;> rfl
theorem nb_neg {x : D} {r : R} (e : negD x = some r) : isBo r = false := by unfold negD at e; split at e <;> cases e <;> rfl
theorem nb_me {m : Me} {x : D} {xs : List D} {r : R} (e : meD m x xs = some r) : isBo r = false := by
  unfold meD at e
  split at e
  · split at e
    · obtain ⟨a, _, rfl⟩ := map_of e; rfl
    · cases e
  · split at e <;> cases e
    rfl
  · cases e
theorem nb_bi {f : Bi} {xs : List D} {r : R} (e : biD f xs = some r) : isBo r = false := by
  cases f
  all_goals first
    | (have e : (none : Option R) = some r := e; cases e; done)
    | (have e : lenD xs = some r := e; unfold lenD at e; split at e <;> cases e <;> rfl)
    | (have e : intD xs = some r := e; unfold intD at e; split at e <;> cases e <;> rfl)
    | (have e : absD xs = some r := e; unfold absD at e; split at e <;> cases e <;> rfl)
    | (have e : max2D xs = some r := e; unfold max2D at e; split at e <;> cases e <;> rfl)
    | (have e : min2D xs = some r := e; unfold min2D at e; split at e <;> cases e <;> rfl)
    | (have e : max1D xs = some r := e; unfold max1D at e; split at e <;> (try split at e) <;> cases e <;> rfl)
    | (have e : min1D xs = some r := e; unfold min1D at e; split at e <;> (try split at e) <;> cases e <;> rfl)
    | (have e : sumD xs = some r := e; unfold sumD at e; split at e <;> first | (obtain ⟨a, _, rfl⟩ := map_of e; rfl) | cases e)
    | (have e : allD xs = some r := e; unfold allD at e; split at e <;> first | (obtain ⟨a, _, rfl⟩ := map_of e; rfl) | cases e)
    | (have e : anyD xs = some r := e; unfold anyD at e; split at e <;> first | (obtain ⟨a, _, rfl⟩ := map_of e; rfl) | cases e)
    | (have e : listD xs = some r := e; unfold listD at e; split at e <;> first | (obtain ⟨a, _, rfl⟩ := map_of e; rfl) | cases e)
    | (have e : tupleD xs = some r := e; unfold tupleD at e; split at e <;> first | (obtain ⟨a, _, rfl⟩ := map_of e; rfl) | cases e)
    | (have e : sortedD xs = some r := e; unfold sortedD at e; split at e <;> first | (cases e; done) | (obtain ⟨a, _, e⟩ := bind_of e; split at e <;> cases e <;> rfl))
    | (have e : reprD xs = some r := e; unfold reprD at e; split at e <;> (try split at e) <;> cases e <;> rfl)
    | (have e : isTD _ xs = some r := e; unfold isTD at e; split at e <;> cases e <;> rfl)
/-- what is no name and no choice gives no list of the frame's own -/
theorem not_bo {c : Pm.CE} (hv : noBo c = true) {sl : List SV} {ss s : SS} {r : R} (e : ev c sl ss = some (r, s)) : isBo r = false := by
  cases c with
  | loc i => cases hv
  | ife a b c => cases hv
  | lit d => cases e; rfl
  | glo x d => cases e; rfl
  | bin o a b => obtain ⟨p, _, e⟩ := bind_of e; obtain ⟨q, _, e⟩ := bind_of e; obtain ⟨t, e1, e2⟩ := map_of e; cases e2; exact nb_bin e1
  | neg a => obtain ⟨d, _, e⟩ := O.f_of e; exact nb_neg e
  | not a => obtain ⟨p, _, e⟩ := bind_of e; cases e; rfl
  | and a b => obtain ⟨p, _, e⟩ := bind_of e; (split at e <;> first | (cases e; rfl) | (obtain ⟨q, _, e⟩ := bind_of e; cases e; rfl))
  | or a b => obtain ⟨p, _, e⟩ := bind_of e; (split at e <;> first | (cases e; rfl) | (obtain ⟨q, _, e⟩ := bind_of e; cases e; rfl))
  | cmp o a b => obtain ⟨p, _, e⟩ := bind_of e; obtain ⟨q, _, e⟩ := bind_of e; obtain ⟨t, e1, e2⟩ := map_of e; cases e2; rfl
  | cmp2 o p a b c =>
    obtain ⟨p, _, e⟩ := bind_of e; obtain ⟨q, _, e⟩ := bind_of e; obtain ⟨t, _, e⟩ := bind_of e
    split at e
    · obtain ⟨q, _, e⟩ := bind_of e; obtain ⟨t, e1, e2⟩ := map_of e; cases e2; rfl
    · cases e; rfl
  | tup es => obtain ⟨p, _, e⟩ := bind_of e; cases e; rfl
  | lst es => obtain ⟨p, _, e⟩ := bind_of e; cases e; rfl
  | star a => obtain ⟨p, _, e⟩ := bind_of e; cases e; rfl
  | lc a b c d => obtain ⟨p, _, e⟩ := bind_of e; obtain ⟨q, _, e⟩ := bind_of e; split at e <;> cases e; rfl
  | rg1 a => obtain ⟨d, _, e⟩ := O.f_of e; unfold rg1D at e; split at e <;> (try split at e) <;> cases e <;> rfl
  | rg2 a b => obtain ⟨p, _, e⟩ := bind_of e; obtain ⟨q, _, e⟩ := bind_of e; obtain ⟨t, e1, e2⟩ := map_of e; cases e2; unfold rg2D at e1; split at e1 <;> (try split at e1) <;> cases e1 <;> rfl
  | rg3 a b c => cases e
  | enm a => obtain ⟨d, _, e⟩ := O.f_of e; unfold enD at e; split at e <;> cases e <;> rfl
  | zip a b => obtain ⟨p, _, e⟩ := bind_of e; obtain ⟨q, _, e⟩ := bind_of e; obtain ⟨t, e1, e2⟩ := map_of e; cases e2; obtain ⟨p, _, e3⟩ := bind_of e1; obtain ⟨t, e4, e2⟩ := map_of e3; cases e2; rfl
  | idx a i => obtain ⟨p, _, e⟩ := bind_of e; obtain ⟨q, _, e⟩ := bind_of e; obtain ⟨t, e1, e2⟩ := map_of e; cases e2; rfl
  | sli a b c => obtain ⟨p, _, e⟩ := bind_of e; obtain ⟨q, _, e⟩ := bind_of e; obtain ⟨q, _, e⟩ := bind_of e; obtain ⟨t, e1, e2⟩ := map_of e; cases e2; exact nb_sli e1
  | nop => cases e; rfl
  | rev a => obtain ⟨d, _, e⟩ := O.f_of e; exact nb_rev e
  | bi f es => obtain ⟨d, _, e⟩ := O.f_of e; exact nb_bi e
  | met m o es => obtain ⟨p, _, e⟩ := bind_of e; obtain ⟨q, _, e⟩ := bind_of e; obtain ⟨t, e1, e2⟩ := map_of e; cases e2; exact nb_me e1
  | call x f es =>
    obtain ⟨p, _, e⟩ := bind_of e
    obtain ⟨as, _, e⟩ := bind_of e
    obtain ⟨q, _, e⟩ := bind_of e
    split at e <;> cases e
    rename_i h
    cases r <;> first | rfl | (cases h.1)
  | sget k i => (have e : (match isSrc sl i with | true => some (R.v (.int (ss.get k)), ss) | false => none) = some (r, s) := e); split at e <;> cases e; rfl
  | slen i => (have e : (match isSrc sl i with | true => some (R.v (.int ss.cells.length), ss) | false => none) = some (r, s) := e); split at e <;> cases e; rfl
  | newk => cases e; rfl
  | newt => cases e; rfl
  | dhas b k i =>
    obtain ⟨kd, _, e⟩ := O.f_of (show (toD (ev k sl ss)).f (dhasD b sl i) = some (r, s) from e)
    obtain ⟨q, _, e⟩ := bind_of e
    obtain ⟨t, e1, rfl⟩ := map_of e
    rfl
  | dget i k =>
    obtain ⟨kd, _, e⟩ := O.f_of (show (toD (ev k sl ss)).f (dgetD sl i) = some (r, s) from e)
    obtain ⟨q, _, e⟩ := bind_of e
    obtain ⟨t, _, e⟩ := bind_of e
    obtain ⟨t, e1, rfl⟩ := map_of e
    rfl
  | dget2 i k d =>
    obtain ⟨p, _, e⟩ := bind_of (show (toD (ev k sl ss)).bind (fun p => (toE (ev d sl p.2)).bind fun q => (dget2D sl i p.1 q.1).map fun r => (r, q.2)) = some (r, s) from e)
    obtain ⟨q, _, e⟩ := bind_of e
    obtain ⟨t, e1, e2⟩ := map_of e
    cases e2
    obtain ⟨q, _, e⟩ := bind_of e1
    obtain ⟨t, e1, rfl⟩ := map_of e
    rfl
end Pm
namespace Pm
open PySem PySem.Spec PyProof.Rows L2
section
variable {K : PySem.W.Frag} {g : G} {F : Addr → Prop} {sl : List SV} {σ : L2.St} {H : Hp} {Q : VK}
theorem kvs_val {F : Addr → Prop} {H : Hp} (k : L2.Key) : ∀ {vvs : List (L2.Key × V)} {kvs : List (L2.Key × D)}, KVs K F H vvs kvs → (∃ d v, kGet kvs k = some d ∧ valV vvs k = some v ∧ FD K F H v d) ∨ (kGet kvs k = none ∧ valV vvs k = none)
  | _, _, .nil => .inr ⟨rfl, rfl⟩
  | _, _, .cons (a := p) (b := q) h t => by
    obtain ⟨h1, h2⟩ := h
    by_cases e : p.1 = k
    · refine .inl ⟨q.2, p.2, ?_, valV_pos e, h2⟩
      unfold kGet
      rw [List.find?_cons, decide_eq_true (h1 ▸ e)]
      rfl
    · have ih := kvs_val k t
      have e2 : ¬ q.1 = k := fun z => e (h1.trans z)
      rw [valV_neg e]
      unfold kGet at ih ⊢
      rw [List.find?_cons, decide_eq_false e2]
      exact ih
theorem kvs_any {F : Addr → Prop} {H : Hp} (k : L2.Key) : ∀ {vvs : List (L2.Key × V)} {kvs : List (L2.Key × D)}, KVs K F H vvs kvs → (vvs.any fun p => decide (p.1 = k)) = kvs.any fun p => decide (p.1 = k)
  | _, _, .nil => rfl
  | _, _, .cons h t => by rw [List.any_cons, List.any_cons, kvs_any k t, h.1]
theorem kvs_map {F : Addr → Prop} {H : Hp} (k : L2.Key) {v : V} {d : D} (hd : FD K F H v d) : ∀ {vvs : List (L2.Key × V)} {kvs : List (L2.Key × D)}, KVs K F H vvs kvs → KVs K F H (vvs.map fun p => if p.1 = k then (p.1, v) else p) (kvs.map fun p => if p.1 = k then (p.1, d) else p)
  | _, _, .nil => .nil
  | _, _, .cons (a := p) (b := q) h t => by
    rw [List.map_cons, List.map_cons]
    refine .cons ?_ (kvs_map k hd t)
    by_cases e : p.1 = k
    · rw [if_pos e, if_pos (h.1 ▸ e)]; exact ⟨h.1, hd⟩
    · rw [if_neg e, if_neg (fun z => e (h.1.trans z))]; exact h
theorem kvs_put {F : Addr → Prop} {H : Hp} (k : L2.Key) {v : V} {d : D} (hd : FD K F H v d) {vvs : List (L2.Key × V)} {kvs : List (L2.Key × D)} (h : KVs K F H vvs kvs) : KVs K F H (putK vvs k v) (kPut kvs k d) := by
  unfold putK kPut
  rw [kvs_any k h]
  split
  · exact kvs_map k hd h
  · exact Paired.snoc h ⟨rfl, hd⟩
theorem keyOf_rd {F : Addr → Prop} {H : Hp} {x : V} {d : D} {k : L2.Key} (h : RD K F H x d) (e : keyOf d = some k) : x = kV k := by
  cases d with
  | int i => cases e; exact h.int
  | str z => cases e; exact h.str
  | _ => cases e
theorem dkAt_of {i : Nat} {kvs : List (L2.Key × D)} (e : dkAt sl i = some kvs) : sl[i]? = some (.dk kvs) := by
  unfold dkAt at e
  split at e
  · cases e; assumption
  · cases e
theorem Rp.dkSlot {ss : SS} {i : Nat} {kvs : List (L2.Key × D)} (r : Rp K g F ss sl σ H) (e : dkAt sl i = some kvs) : ∃ a vvs, σ[i]? = some (some (.ref a)) ∧ H a = some (.dK vvs) ∧ KVs K F H vvs kvs := by
  obtain ⟨x, e1, a, vvs, rfl, h1, h2, h3⟩ := r.slot i _ (dkAt_of e)
  exact ⟨a, vvs, e1, h1, h2⟩
theorem LE.dget {i : Nat} {k : Pm.CE} (h : LE K g (ev (.dget i k) sl) sl σ H Q) : tDGet (tVar i) (LE K g (ev k sl) sl) σ H Q := by
  obtain ⟨F, ss, r, s', e, rp, kq⟩ := h
  obtain ⟨kd, e1, e2⟩ := O.f_of (show (toD (ev k sl ss)).f (dgetD sl i) = some (r, s') from e)
  obtain ⟨kvs, e3, e2⟩ := bind_of e2
  obtain ⟨key, e4, e2⟩ := bind_of e2
  obtain ⟨d, e5, rfl⟩ := map_of e2
  obtain ⟨ra, e6, e7⟩ := O.f_of e1
  obtain ⟨a, _, ea, _, _⟩ := rp.dkSlot e3
  refine ⟨_, ea, F, ss, ra, _, e6, rp, fun y H1 F1 g1 p1 h1 => ?_⟩
  obtain ⟨a', vvs, ea', ha, hk⟩ := p1.dkSlot e3
  rw [ea] at ea'
  cases ea'
  obtain rfl := keyOf_rd (h1.rd e7) e4
  rcases kvs_val key hk with ⟨d', v, q1, q2, q3⟩ | ⟨q1, _⟩
  · rw [e5] at q1
    cases q1
    exact ⟨a, v, rfl, by rw [← q2]; exact DGet.k ha, kq v H1 F1 g1 p1 q3⟩
  · rw [e5] at q1; cases q1
theorem LE.dhas {b : Bool} {i : Nat} {k : Pm.CE} (h : LE K g (ev (.dhas b k i) sl) sl σ H Q) : (if b = true then tDIn else tDNotIn) (LE K g (ev k sl) sl) (tVar i) σ H Q := by
  obtain ⟨F, ss, r, s', e, rp, kq⟩ := h
  obtain ⟨kd, e1, e2⟩ := O.f_of (show (toD (ev k sl ss)).f (dhasD b sl i) = some (r, s') from e)
  obtain ⟨kvs, e3, e2⟩ := bind_of e2
  obtain ⟨key, e4, rfl⟩ := map_of e2
  obtain ⟨ra, e6, e7⟩ := O.f_of e1
  have main : ∀ y H1 F1, Gr g F F1 H H1 → Rp K g F1 s' sl σ H1 → RR K g F1 H H1 ra y → tVar i σ H1 fun x H2 => ∃ a o, x = .ref a ∧ DGet H2 a y o ∧ Q (.bl (o.isSome == b)) H2 := fun y H1 F1 g1 p1 h1 => by
    obtain ⟨a, vvs, ea, ha, hk⟩ := p1.dkSlot e3
    obtain rfl := keyOf_rd (h1.rd e7) e4
    refine ⟨_, ea, a, _, rfl, DGet.k ha, ?_⟩
    have e8 : (valV vvs key).isSome = (kGet kvs key).isSome := by
      rcases kvs_val key hk with ⟨d', v, q1, q2, q3⟩ | ⟨q1, q2⟩
      · rw [q1, q2]; rfl
      · rw [q1, q2]; rfl
    rw [e8]
    exact kq _ H1 F1 g1 p1 (FD.bl _)
  cases b
  · refine ⟨F, ss, ra, _, e6, rp, fun y H1 F1 g1 p1 h1 => ?_⟩
    obtain ⟨x, ex, a, o, q1, q2, q3⟩ := main y H1 F1 g1 p1 h1
    exact ⟨x, ex, a, o, q1, q2, by cases o <;> exact q3⟩
  · refine ⟨F, ss, ra, _, e6, rp, fun y H1 F1 g1 p1 h1 => ?_⟩
    obtain ⟨x, ex, a, o, q1, q2, q3⟩ := main y H1 F1 g1 p1 h1
    exact ⟨x, ex, a, o, q1, q2, by cases o <;> exact q3⟩
theorem LE.dget2 {i : Nat} {k d : Pm.CE} (h : LE K g (ev (.dget2 i k d) sl) sl σ H Q) : tDGet2 (tVar i) (LE K g (ev k sl) sl) (LE K g (ev d sl) sl) σ H Q := by
  obtain ⟨F, ss, r, s', e, rp, kq⟩ := h
  obtain ⟨⟨kd, s1⟩, e1, e⟩ := bind_of (show (toD (ev k sl ss)).bind (fun p => (toE (ev d sl p.2)).bind fun q => (dget2D sl i p.1 q.1).map fun r => (r, q.2)) = some (r, s') from e)
  obtain ⟨⟨dd, s2⟩, e2, e⟩ := bind_of e
  obtain ⟨r', e3, e4⟩ := map_of e
  cases e4
  obtain ⟨kvs, e5, e3⟩ := bind_of e3
  obtain ⟨key, e6, rfl⟩ := map_of e3
  obtain ⟨ra, e7, e8⟩ := O.f_of e1
  obtain ⟨rb, e9, e10⟩ := O.f_of e2
  obtain ⟨a, vvs0, ea, ha0, _⟩ := rp.dkSlot e5
  refine ⟨_, ea, a, rfl, .inl ⟨_, .inl ha0⟩, F, ss, ra, _, e7, rp, fun y H1 F1 g1 p1 h1 => ⟨F1, s1, rb, _, e9, p1, fun z H2 F2 g2 p2 h2 => ?_⟩⟩
  obtain ⟨F3, g3, f3⟩ := h2.esc e10 g2
  have p3 := p1.step g3 p2.src
  obtain ⟨a', vvs, ea', ha, hk⟩ := p3.dkSlot e5
  rw [ea] at ea'
  cases ea'
  obtain rfl := keyOf_rd (h1.rd e8) e6
  refine ⟨_, DGet.k ha, kq _ H2 F3 (g1.trans g3) p3 ?_⟩
  rcases kvs_val key hk with ⟨d', v, q1, q2, q3⟩ | ⟨q1, q2⟩
  · rw [q1, q2]; exact q3
  · rw [q1, q2]; exact f3
theorem LE.newk (h : LE K g (ev .newk sl) sl σ H Q) : tDNewK σ H Q := by
  obtain ⟨F, ss, r, s', e, rp, kq⟩ := h
  cases e
  intro p hp
  have g1 := rp.grUpd (o := .dK []) hp
  exact kq _ _ F g1 (rp.step g1 (rp.src.upd (rp.srcNe hp).1 (rp.srcNe hp).2)) ⟨p, [], rfl, upd_same, .nil, hp⟩
theorem LE.met {m : Me} {o : Pm.CE} {es : List Pm.CE} (h : LE K g (ev (.met m o es) sl) sl σ H Q) : tBM K "list" (rMt K g m) (LE K g (ev o sl) sl) (LA K g (evs es sl) sl) σ H Q := by
  obtain ⟨F, ss, r, s', e, rp, kq⟩ := h
  obtain ⟨⟨od, s1⟩, e1, e⟩ := bind_of (show (toD (ev o sl ss)).bind (fun p => (toDs (evs es sl p.2)).bind fun q => (meD m p.1 q.1).map fun r => (r, q.2)) = some (r, s') from e)
  obtain ⟨⟨ds, s2⟩, e2, e⟩ := bind_of e
  obtain ⟨r', e3, e4⟩ := map_of e
  cases e4
  obtain ⟨ra, e7, e8⟩ := O.f_of e1
  obtain ⟨rs, e9, e10⟩ := O.f_of e2
  obtain ⟨_, xs, rfl⟩ := meD_list e3
  refine ⟨F, ss, ra, s1, e7, rp, fun x H1 F1 g1 p1 h1 => ?_⟩
  obtain ⟨p, vs, ex, sp, fp⟩ := (h1.rd e8).lst
  refine ⟨by rw [ex]; exact .inl ⟨rfl, vs, .of sp⟩, F1, s1, rs, _, e9, p1, fun zs H2 F2 g2 p2 h2 => ?_⟩
  exact ⟨F2, _, xs, ds, r, p2.at, (h1.keep g2 p1.fC g1).rd e8, h2.rds e10, e3, fun z H3 F3 g3 s3 h3 => kq z H3 F3 (g1.trans (g2.trans g3)) (p2.step g3 s3) (h3.early (g1.trans g2))⟩
end
end Pm
namespace Pm
open PySem PySem.Spec PyProof.Rows L2
theorem FDs.rg {K : PySem.W.Frag} {F : Addr → Prop} {H : Hp} (a b : Int) : FDs K F H (rgV a b) (rangeD a b) := by
  unfold rgV rangeD
  generalize (b - a).toNat = n
  have : ∀ l : List Nat, FDs K F H (l.map fun i => V.int (a + (i : Nat))) (l.map fun (i : Nat) => PyData.int (a + i)) := by
    intro l
    induction l with
    | nil => exact .nil
    | cons i l ih => exact .cons (.int _) ih
  exact this _
section
variable {K : PySem.W.Frag} {g : G} {sl : List SV} {σ : L2.St} {H : Hp} {Q : VK}
theorem ev_star1 {r : Pm.CE} {ss s : SS} {ds : List D} (e : toX (evs [.star r] sl ss) = some (ds, s)) : ∃ xs, toI (ev r sl ss) = some (xs, s) ∧ ds = xs ∧ ds.length ≤ SL := by
  obtain ⟨⟨a, s1⟩, e1, e2⟩ := bind_of e
  obtain ⟨rs, e3, e4⟩ := O.f_of e1
  obtain ⟨⟨r1, s2⟩, e5, e6⟩ := bind_of e3
  obtain ⟨⟨rest, s3⟩, e7, e8⟩ := bind_of e6
  cases e7
  cases e8
  obtain ⟨⟨xs, s4⟩, e9, e10⟩ := bind_of e5
  cases e10
  have e4 : some (xs ++ []) = some a := e4
  cases e4
  have e2 : (if (xs ++ []).length ≤ SL then some (xs ++ [], _) else none) = some (ds, s) := e2
  split at e2 <;> cases e2
  rename_i h
  rw [List.append_nil] at h ⊢
  exact ⟨xs, e9, rfl, h⟩
theorem ev_rg1 {a : Pm.CE} {ss s : SS} {xs : List D} (e : toI (ev (.rg1 a) sl ss) = some (xs, s)) : ∃ i, toD (ev a sl ss) = some (.int i, s) ∧ xs = rangeD 0 i ∧ -4611686018427387904 ≤ i ∧ i ≤ 16777216 := by
  obtain ⟨r, e1, e2⟩ := O.f_of e
  obtain ⟨d, e3, e4⟩ := O.f_of e1
  unfold rg1D at e4
  split at e4
  · split at e4 <;> cases e4
    rename_i h
    cases e2
    exact ⟨_, e3, rfl, h⟩
  · cases e4
theorem ev_rg2 {a b : Pm.CE} {ss s : SS} {xs : List D} (e : toI (ev (.rg2 a b) sl ss) = some (xs, s)) : ∃ i j s1, toD (ev a sl ss) = some (.int i, s1) ∧ toD (ev b sl s1) = some (.int j, s) ∧ xs = rangeD i j ∧ (-4611686018427387904 ≤ i ∧ i < 4611686018427387904 ∧ -4611686018427387904 ≤ j ∧ j < 4611686018427387904) ∧ j - i ≤ 16777216 := by
  obtain ⟨r, e1, e2⟩ := O.f_of e
  obtain ⟨⟨da, s1⟩, e3, e4⟩ := bind_of e1
  obtain ⟨⟨db, s2⟩, e5, e6⟩ := bind_of e4
  obtain ⟨r', e7, e8⟩ := map_of e6
  cases e8
  have e7 : rg2D da db = some r := e7
  unfold rg2D at e7
  split at e7
  · split at e7 <;> cases e7
    rename_i h
    cases e2
    exact ⟨_, _, _, e3, e5, rfl, h⟩
  · cases e7
theorem rgok {a b : Int} {xs : List D} (e : xs = rangeD a b) (h : xs.length ≤ SL) (h1 : -4611686018427387904 ≤ a) (h2 : a < 4611686018427387904) (h3 : -4611686018427387904 ≤ b) (h4 : b < 4611686018427387904) : RgOk a b := by
  subst e
  rw [rangeD_len] at h
  exact ⟨by omega, by omega, by omega, by omega, h⟩
/-- a range among a display's items -/
def tStarRg (te : L2.St → Hp → (Int → Int → Hp → Prop) → Prop) (t : TA) : TA := fun σ H Q => te σ H fun a b H1 => RgOk a b ∧ t σ H1 fun vs H2 => Q (rgV a b ++ vs) H2
theorem pa_starRg {X : Cx} {e : Expr} {es : List Expr} {p : Pos} {te : L2.St → Hp → (Int → Int → Hp → Prop) → Prop} {t : TA} (hc : X.calm = true) (he : PRg X e te) (hr : PA X es t) : PA X (.Starred e p :: es) (tStarRg te t) := by
  refine ⟨fun pos pins s σ H Q I h => ?_⟩
  refine PySem.W.items_star (thn (he pins s σ H _ I h) fun v s1 ⟨r, a, b, t1, u, w, H1, ev, hrg, I1, ok, q⟩ => ?_) rfl
  subst ev
  obtain ⟨b1, b2, b3, b4, b5⟩ := ok
  have hT : s1.TypeIs (.ref r) "range" := ⟨_, hrg, rfl⟩
  unfold PySem.W.StarOf notIterableAtAll
  refine wpAny_bind (wpAny_specialOf hT PySem.F.slot_range_iter.lookup (wpAny_pure ⟨rfl, ?_⟩))
  refine collect_range (I1.ok.hd hc) hrg (small_one b1 b2 b3 b4) (rangeSize_nat a b) b5 fun h' tk acc hk hi => ?_
  have I2 : Inv X pins σ H1 { s1 with heap := h', toks := tk } := I1.kept hk
  exact thn (hr.run pos pins _ σ H1 _ I2 q) fun ws s3 ⟨vs, H3, I3, r3, q3⟩ => ⟨rgV a b ++ vs, H3, I3, (vals_rg hi).append r3, q3⟩
theorem LX.starRg1 {a : Pm.CE} {ms m' : SS → O (List R)} {Qs : List V → Hp → Prop} (h : LX K g (fun ss => (m' ss).f dispR) sl σ H Qs) (hm : ∀ ss, m' ss = ((toI (ev (.rg1 a) sl ss)).bind fun p => some (R.st p.1, p.2)).bind fun p => (ms p.2).bind fun q => some (p.1 :: q.1, q.2)) :
    tStarRg (tRg1 (LE K g (ev a sl) sl)) (LX K g (fun ss => (ms ss).f dispR) sl) σ H Qs := by
  obtain ⟨F, ss, r, ss', e, rp, k⟩ := h
  obtain ⟨rr, e, e0⟩ := O.f_of e
  rw [hm] at e
  obtain ⟨⟨ra, s1⟩, e1, e⟩ := bind_of e
  obtain ⟨⟨rs, s2⟩, e2, e⟩ := bind_of e
  cases e
  obtain ⟨⟨is, s3⟩, e8, e9⟩ := bind_of e1
  cases e9
  obtain ⟨i, e4, rfl, b1, b2⟩ := ev_rg1 e8
  obtain ⟨rb, e10, e11⟩ := O.f_of e4
  obtain ⟨ds, e6, e7⟩ := map_of (show (dispR rs).map (rangeD 0 i ++ ·) = some r from e0)
  cases e7
  refine ⟨F, ss, rb, _, e10, rp, fun x H1 F1 g1 p1 h1 => ⟨i, (h1.rd e11).int, ⟨by omega, by omega, by omega, by omega, by omega⟩, ?_⟩⟩
  exact ⟨F1, _, ds, _, by show (ms _).f dispR = _; rw [e2]; show (dispR rs).map _ = _; rw [e6]; rfl, p1, fun xs H2 F2 g2 p2 h2 => k _ H2 F2 (g1.trans g2) p2 ((FDs.rg 0 i).append h2)⟩
theorem LX.starRg2 {a b : Pm.CE} {ms m' : SS → O (List R)} {Qs : List V → Hp → Prop} (h : LX K g (fun ss => (m' ss).f dispR) sl σ H Qs) (hm : ∀ ss, m' ss = ((toI (ev (.rg2 a b) sl ss)).bind fun p => some (R.st p.1, p.2)).bind fun p => (ms p.2).bind fun q => some (p.1 :: q.1, q.2)) :
    tStarRg (tRg2 (LE K g (ev a sl) sl) (LE K g (ev b sl) sl)) (LX K g (fun ss => (ms ss).f dispR) sl) σ H Qs := by
  obtain ⟨F, ss, r, ss', e, rp, k⟩ := h
  obtain ⟨rr, e, e0⟩ := O.f_of e
  rw [hm] at e
  obtain ⟨⟨ra, s1⟩, e1, e⟩ := bind_of e
  obtain ⟨⟨rs, s2⟩, e2, e⟩ := bind_of e
  cases e
  obtain ⟨⟨is, s3⟩, e8, e9⟩ := bind_of e1
  cases e9
  obtain ⟨i, j, s4, e4, e4', rfl, ⟨b1, b2, b3, b4⟩, b5⟩ := ev_rg2 e8
  obtain ⟨rb, e10, e11⟩ := O.f_of e4
  obtain ⟨rc, e12, e13⟩ := O.f_of e4'
  obtain ⟨ds, e6, e7⟩ := map_of (show (dispR rs).map (rangeD i j ++ ·) = some r from e0)
  cases e7
  refine ⟨F, ss, rb, _, e10, rp, fun x H1 F1 g1 p1 h1 => ⟨F1, _, rc, _, e12, p1, fun y H2 F2 g2 p2 h2 => ⟨i, j, (h1.rd e11).int, (h2.rd e13).int, ⟨by omega, by omega, by omega, by omega, by omega⟩, ?_⟩⟩⟩
  exact ⟨F2, _, ds, _, by show (ms _).f dispR = _; rw [e2]; show (dispR rs).map _ = _; rw [e6]; rfl, p2, fun xs H3 F3 g3 p3 h3 => k _ H3 F3 (g1.trans (g2.trans g3)) p3 ((FDs.rg i j).append h3)⟩
def mkR (b : Bool) (xs : List D) : R := if b then .v (.tuple xs) else .fr xs
def mkO (b : Bool) (xs : List V) : HO := if b then .tup xs else .lst xs
theorem Kt.mk {F : Addr → Prop} {ss : SS} {b : Bool} {xs : List D} {vs : List V} {p : Addr} (a : At K g F ss H) (k : Kt K g F ss H (mkR b xs) Q) (h : FDs K F H vs xs) (hp : H p = none) : Q (.ref p) (upd H p (mkO b vs)) := by
  cases b
  · exact k.lst a h hp
  · exact k.tup a h hp
/-- tuple(range(..)) and list(range(..)) -/
theorem LE.rgX {a : Pm.CE} (b : Bool) (h : LE K g (fun ss => (toX (evs [.star (.rg1 a)] sl ss)).bind fun p => some (mkR b p.1, p.2)) sl σ H Q) :
    tRg1 (LE K g (ev a sl) sl) σ H fun x y H1 => RgOk x y ∧ ∀ q, H1 q = none → Q (.ref q) (upd H1 q (mkO b (rgV x y))) := by
  obtain ⟨F, ss, r, s1, e, rp, k⟩ := h
  obtain ⟨⟨ds, s⟩, e1, e2⟩ := bind_of e
  cases e2
  obtain ⟨xs, e3, rfl, hl⟩ := ev_star1 e1
  obtain ⟨i, e4, e5, b1, b2⟩ := ev_rg1 e3
  obtain ⟨ra, e6, e7⟩ := O.f_of e4
  refine ⟨F, ss, ra, _, e6, rp, fun x H1 F1 g1 p1 h1 => ⟨i, (h1.rd e7).int, rgok e5 hl (by omega) (by omega) (by omega) (by omega), fun q hq => ?_⟩⟩
  subst e5
  have kt : Kt K g F1 _ H1 (mkR b (rangeD 0 i)) Q := fun z H2 F2 g2 s2 h2 => k z H2 F2 (g1.trans g2) (p1.step g2 s2) (h2.early g1)
  exact Kt.mk p1.at kt (.rg _ _) hq
theorem LE.rgX2 {a c : Pm.CE} (b : Bool) (h : LE K g (fun ss => (toX (evs [.star (.rg2 a c)] sl ss)).bind fun p => some (mkR b p.1, p.2)) sl σ H Q) :
    tRg2 (LE K g (ev a sl) sl) (LE K g (ev c sl) sl) σ H fun x y H1 => RgOk x y ∧ ∀ q, H1 q = none → Q (.ref q) (upd H1 q (mkO b (rgV x y))) := by
  obtain ⟨F, ss, r, s1, e, rp, k⟩ := h
  obtain ⟨⟨ds, s⟩, e1, e2⟩ := bind_of e
  cases e2
  obtain ⟨xs, e3, rfl, hl⟩ := ev_star1 e1
  obtain ⟨i, j, s2, e4, e4', e5, ⟨b1, b2, b3, b4⟩, b5⟩ := ev_rg2 e3
  obtain ⟨ra, e6, e7⟩ := O.f_of e4
  obtain ⟨rb, e8, e9⟩ := O.f_of e4'
  refine ⟨F, ss, ra, _, e6, rp, fun x H1 F1 g1 p1 h1 => ⟨F1, _, rb, _, e8, p1, fun y H2 F2 g2 p2 h2 => ⟨i, j, (h1.rd e7).int, (h2.rd e9).int, rgok e5 hl (by omega) (by omega) (by omega) (by omega), fun q hq => ?_⟩⟩⟩
  subst e5
  have gg := g1.trans g2
  have kt : Kt K g F2 _ H2 (mkR b (rangeD i j)) Q := fun z H3 F3 g3 s3 h3 => k z H3 F3 (gg.trans g3) (p2.step g3 s3) (h3.early gg)
  exact Kt.mk p2.at kt (.rg _ _) hq
/-- a part of a slice -/
def LP (K : PySem.W.Frag) (g : G) (m : SS → O D) (sl : List SV) : TO := fun σ H Q => ∃ F ss d s, m ss = some (d, s) ∧ Rp K g F ss sl σ H ∧
  ∀ (o : Option Int) H' F', Gr g F F' H H' → Rp K g F' s sl σ H' → d = (match o with | none => .none | some i => .int i) → Q o H'
theorem PO.imp {X : Cx} {e : Option Expr} {t t' : TO} (h : PO X e t) (i : ∀ σ H Q, t' σ H Q → t σ H Q) : PO X e t' := ⟨fun pins s σ H Q I q => h.run pins s σ H Q I (i σ H Q q)⟩
theorem po_nop {X : Cx} {c : Pm.CE} (h : isNop c = true) : PO X none (LP X.K g (fun ss => toP c (ev c sl ss)) sl) := by
  cases c <;> first | exact absurd h Bool.false_ne_true | skip
  refine PO.imp po_none fun σ H Q q => ?_
  obtain ⟨F, ss, d, s, e, rp, k⟩ := q
  have e : some (PyData.none, ss) = some (d, s) := e
  cases e
  exact k none H F rp.gr rp rfl
theorem po_ex {X : Cx} {c : Pm.CE} {e : Expr} (h : isNop c = false) (he : PE X e (LE X.K g (ev c sl) sl)) : PO X (some e) (LP X.K g (fun ss => toP c (ev c sl ss)) sl) := by
  refine PO.imp (po_some he) fun σ H Q q => ?_
  obtain ⟨F, ss, d, s, e, rp, k⟩ := q
  have e : toP c (ev c sl ss) = some (d, s) := e
  unfold toP at e
  rw [h] at e
  obtain ⟨r, e1, e2⟩ := O.f_of e
  obtain ⟨i, e5, rfl⟩ : ∃ i, rd r = some (.int i) ∧ d = .int i := by
    unfold rdInt at e2
    split at e2
    · cases e2; exact ⟨_, by assumption, rfl⟩
    · cases e2
  exact ⟨F, ss, r, _, e1, rp, fun x H1 F1 g1 p1 h1 => ⟨_, (h1.rd e5).int, k (some _) H1 F1 g1 p1 rfl⟩⟩
def rSl (K : PySem.W.Frag) : V → Option Int → Option Int → Hp → VK → Prop := fun x lo hi H Q => rSlL K x lo hi H Q ∨ rSlA K x lo hi H Q
theorem FDs.cutV {F : Addr → Prop} {vs : List V} {ds ys : List D} {lo hi : Option Int} (h : FDs K F H vs ds) (e : cut ds (match lo with | none => .none | some i => .int i) (match hi with | none => .none | some i => .int i) = some ys) : FDs K F H (L2.cutV vs lo hi) ys := by
  have hl := h.length
  have key : ∀ (n d : Nat) (o : Option Int), sIx n d (match o with | none => .none | some i => .int i) = some (HT.sIx n d o) := fun n d o => by cases o <;> rfl
  unfold cut at e
  rw [key, key] at e
  cases e
  unfold L2.cutV
  rw [hl]
  exact (h.drop _).take _
theorem LE.sli {m ma : SS → O R} {ml mh : SS → O D} (h : LE K g m sl σ H Q) (hm : ∀ ss, m ss = (toD (ma ss)).bind fun p => (ml p.2).bind fun q => (mh q.2).bind fun t => (sliD p.1 q.1 t.1).map fun r => (r, t.2)) :
    tSl (rSl K) (LE K g ma sl) (LP K g ml sl) (LP K g mh sl) σ H Q := by
  obtain ⟨F, ss, r, ss', e, rp, k⟩ := h
  rw [hm] at e
  obtain ⟨⟨da, s1⟩, e1, e⟩ := bind_of e
  obtain ⟨⟨db, s2⟩, e2, e⟩ := bind_of e
  obtain ⟨⟨dc, s3⟩, e3, e⟩ := bind_of e
  obtain ⟨r', e4, e5⟩ := map_of e
  cases e5
  have e4 : sliD da db dc = some r := e4
  obtain ⟨ra, e6, e7⟩ := O.f_of e1
  refine ⟨F, ss, ra, s1, e6, rp, fun x H1 F1 g1 p1 h1 => ⟨F1, s1, db, s2, e2, p1, fun lo H2 F2 g2 p2 el => ⟨F2, s2, dc, _, e3, p2, fun hi H3 F3 g3 p3 eh => ?_⟩⟩⟩
  have gg := g1.trans (g2.trans g3)
  have h3 := ((h1.keep g2 p1.fC g1).keep g3 p2.fC (g1.trans g2)).rd e7
  have kt : Kt K g F3 _ H3 r Q := fun z H4 F4 g4 s4 h4 => k z H4 F4 (gg.trans g4) (p3.step g4 s4) (h4.early gg)
  subst el eh
  unfold sliD at e4
  split at e4
  · obtain ⟨ys, e8, rfl⟩ := map_of e4
    obtain ⟨p, vs, rfl, sp, fp⟩ := h3.lst
    exact .inl ⟨p, vs, rfl, .of sp, fun q hq => kt.lst p3.at (fp.cutV e8) hq⟩
  · obtain ⟨ys, e8, rfl⟩ := map_of e4
    obtain ⟨p, vs, rfl, sp, fp⟩ := h3.tup
    refine .inr ⟨p, vs, rfl, sp, fun z => ?_, fun z q hq => kt.tup p3.at (fp.cutV e8) hq⟩
    have e9 : L2.cutV vs lo hi = vs := by unfold L2.cutV; rw [z.1, z.2]; simp
    have f := fp.cutV e8
    rw [e9] at f
    exact kt.val p3.at (.tup sp f)
  · cases e4
end
section
variable {j : Nat} (g : G)
theorem isc {X : Cx} {scope : Scope} {cl : List (Str × Addr)} {C : Addr} {s : Shared} {H : Hp} {fp : List Addr} : (X.blk s H scope (compEnvC scope cl C X.env) fp).env.scope = relS scope X.env.scope := rfl
theorem bi_rule {X : Cx} (G : Good X j) (f : Bi) (hp : biPlain f = true) : (∃ id, bootBuiltins (biName f) = some (.builtin id) ∧ CallR X (.builtin id) (rAs X.K g (biD f))) ∨ (∃ T, bootBuiltins (biName f) = some (.type T) ∧ CallR X (.type T) (rAs X.K g (biD f))) := by
  have hc := G.calm
  cases f <;> first | exact absurd hp Bool.false_ne_true | skip
  · exact .inl ⟨"len", by decide +kernel, bi_len⟩
  · exact .inr ⟨"int", by decide +kernel, bi_int⟩
  · exact .inl ⟨"abs", by decide +kernel, bi_abs⟩
  · exact .inl ⟨"max", by decide +kernel, bi_max2 hc⟩
  · exact .inl ⟨"min", by decide +kernel, bi_min2 hc⟩
  · exact .inl ⟨"max", by decide +kernel, bi_max1 hc⟩
  · exact .inl ⟨"min", by decide +kernel, bi_min1 hc⟩
  · exact .inl ⟨"sum", by decide +kernel, bi_sum hc⟩
  · exact .inl ⟨"all", by decide +kernel, bi_all hc⟩
  · exact .inl ⟨"any", by decide +kernel, bi_any hc⟩
  · exact .inr ⟨"list", by decide +kernel, bi_list⟩
  · exact .inr ⟨"tuple", by decide +kernel, bi_tuple⟩
  · exact .inl ⟨"sorted", by decide +kernel, bi_sorted G.u⟩
  · exact .inl ⟨"repr", by decide +kernel, bi_repr G.gu G.u⟩
theorem bi_free {X : Cx} (G : Good X j) (f : Bi) : biName f ∈ bltNames ∨ biName f = "?" := by
  cases f <;> first | (left; decide +kernel) | (right; rfl)
theorem blk_ok {N : List Str} {sc scope : Scope} {own : List (Str × Nat)} (h : blkB N sc scope own = true) : BlkOk N sc scope own := by
  unfold blkB at h
  simp only [Bool.and_eq_true] at h
  obtain ⟨⟨⟨⟨h1, h2⟩, h3⟩, h4⟩, h5⟩ := h
  refine ⟨eq_of_beq h1, fun y hy => eq_of_beq (List.all_eq_true.mp h2 y hy), fun p hp => eq_of_beq (List.all_eq_true.mp h3 p hp), fun y hy e => ?_, fun y hy e => ?_⟩
  · have := List.all_eq_true.mp h4 y hy
    simp only [e, Bool.or_eq_true, Bool.not_eq_true', beq_iff_eq] at this
    rcases this with (z | z) | z
    · exact absurd z (by decide)
    · exact .inl z
    · exact .inr z
  · have := List.all_eq_true.mp h5 y hy
    simp only [Bool.or_eq_true, Bool.not_eq_true', List.contains_iff_mem] at this
    rcases this with (z | z) | z
    · rcases e with e | e <;> simp [e] at z
    · exact .inl (by simpa using z)
    · exact .inr (by simpa using z)
mutual
theorem names_snd (N : List Str) : ∀ t : TGt, (t.names N).map (·.2) = t.slots
  | .one i => rfl
  | .tup ts => by show (TGt.namess N ts).map (·.2) = TGt.slotss ts; exact namess_snd N ts
theorem namess_snd (N : List Str) : ∀ ts : List TGt, (TGt.namess N ts).map (·.2) = TGt.slotss ts
  | [] => rfl
  | t :: ts => by show (t.names N ++ TGt.namess N ts).map (·.2) = t.slots ++ TGt.slotss ts; rw [List.map_append, names_snd N t, namess_snd N ts]
end
theorem as_cons {st : Str → Bool} {N : List Str} {t : TGt} {e : Expr} {es : List Expr} {env : Env} (h : chkT st N t e = true) : assignEach (e :: es) env = (false, assign e env) :: assignEach es env := by
  cases e <;> first | rfl | (cases t <;> exact absurd h Bool.false_ne_true)
theorem as_all {st : Str → Bool} {N : List Str} {env : Env} : ∀ {ts : List TGt} {es : List Expr}, chkTs st N ts es = true → (assignEach es env).length = ts.length ∧ (assignEach es env).findIdx? (·.1) = none
  | [], [], _ => ⟨rfl, rfl⟩
  | [], _ :: _, h => absurd h Bool.false_ne_true
  | _ :: _, [], h => absurd h Bool.false_ne_true
  | t :: ts, e :: es, h => by
    have h : (chkT st N t e && chkTs st N ts es) = true := h
    simp only [Bool.and_eq_true] at h
    obtain ⟨h1, h2⟩ := as_all (env := env) h.2
    rw [as_cons h.1]
    exact ⟨by rw [List.length_cons, List.length_cons, h1], by rw [List.findIdx?_cons, h2]; rfl⟩
mutual
theorem tg_ok {X : Cx} (G : Good X j) (st : Str → Bool) (hst : ∀ x, st x = true → Loc X.env.scope x ∧ (X.fn x = true ∨ X.env.scope.names.lookup x = some .local)) : ∀ (t : TGt) (e : Expr), chkT st X.N t e = true → PG X e (LG X.K g t)
  | .one i, e, h => by
    cases e with
    | Name x pos =>
      have h : (X.N[i]? == some x && st x) = true := h
      simp only [Bool.and_eq_true] at h
      exact PG.imp (pg_name G.nd (eq_of_beq h.1) (hst x h.2).1 (hst x h.2).2) fun v σ H Q q => LG.one q
    | _ => exact absurd h Bool.false_ne_true
  | .tup ts, e, h => by
    cases e with
    | Tuple es k pos =>
      have h : chkTs st X.N ts es = true := h
      exact PG.imp (pg_tup (n := ts.length) G.calm (tgs_ok G st hst ts es h) (as_all h).1 (as_all h).2) fun v σ H Q q => LG.tup q rfl
    | _ => exact absurd h Bool.false_ne_true
theorem tgs_ok {X : Cx} (G : Good X j) (st : Str → Bool) (hst : ∀ x, st x = true → Loc X.env.scope x ∧ (X.fn x = true ∨ X.env.scope.names.lookup x = some .local)) : ∀ (ts : List TGt) (es : List Expr), chkTs st X.N ts es = true → PGs X es (LGs X.K g ts)
  | [], [], _ => PGs.imp pgs_nil fun v σ H Q q => LGs.nil q
  | [], _ :: _, h => absurd h Bool.false_ne_true
  | _ :: _, [], h => absurd h Bool.false_ne_true
  | t :: ts, e :: es, h => by
    have h : (chkT st X.N t e && chkTs st X.N ts es) = true := h
    simp only [Bool.and_eq_true] at h
    exact PGs.imp (pgs_cons (tg_ok G st hst t e h.1) (tgs_ok G st hst ts es h.2) (by rw [as_cons h.1]; rfl)) fun v σ H Q q => LGs.cons q
end
end
end Pm
namespace Pm
open PySem PySem.Spec PyProof.Rows L2
variable {j : Nat} (g : G)
theorem st_of {X : Cx} {sc scope : Scope} {s : Shared} {H : Hp} {cenv : Env} {fp : List Addr} (h : ∀ y ∈ scope.names, scope.names.lookup y.1 = some y.2) (e : cenv.scope = relS scope sc) : ∀ x, locB scope x = true → Loc (X.blk s H scope cenv fp).env.scope x ∧ ((X.blk s H scope cenv fp).fn x = true ∨ (X.blk s H scope cenv fp).env.scope.names.lookup x = some .local) := by
  intro x hx
  show Loc cenv.scope x ∧ ((scope.names.lookup x == some .cell) = true ∨ cenv.scope.names.lookup x = some .local)
  rw [e]
  rcases loc_of hx with q | q
  · have z : (relS scope sc).names.lookup x = some .local := lookup_relS_keep (by decide) q
    exact ⟨.inl z, .inr z⟩
  · have z : (relS scope sc).names.lookup x = some .cell := lookup_relS_keep (by decide) q
    exact ⟨.inr z, .inl (by rw [q]; rfl)⟩
/-- an item -/
def rIxG (K : PySem.W.Frag) (g : G) : R2 := rB K g fun x y => (idxD x y).map .v
theorem ix_ok {X : Cx} : IxR X (rIxG X.K g) := by
  intro value slice pins s σ H x y v u Q I rx ry ⟨F, ss, dx, dy, r, a, hx, hy, e, k⟩ hs
  obtain ⟨d, e1, rfl⟩ := map_of e
  unfold idxD at e1
  split at e1
  · obtain ⟨i, e2, e3⟩ := bind_of e1
    obtain ⟨p, vs, rfl, sp, fp⟩ := hx.lst
    obtain rfl := hy.int
    obtain ⟨z, e4, hz⟩ := fp.get e3
    exact ix_list value slice pins s σ H _ _ v u Q I rx ry ⟨p, vs, _, z, rfl, rfl, .of sp, by unfold atI; rw [fp.length]; show (L2.ixN _ _).bind _ = _; rw [show L2.ixN _ _ = some i from e2]; exact e4, k.val a hz⟩ hs
  · obtain ⟨i, e2, e3⟩ := bind_of e1
    obtain ⟨p, vs, rfl, sp, fp⟩ := hx.tup
    obtain rfl := hy.int
    obtain ⟨z, e4, hz⟩ := fp.get e3
    exact ix_tup value slice pins s σ H _ _ v u Q I rx ry ⟨p, vs, _, z, rfl, rfl, sp, by unfold atI; rw [fp.length]; show (L2.ixN _ _).bind _ = _; rw [show L2.ixN _ _ = some i from e2]; exact e4, k.val a hz⟩ hs
  · cases e1
theorem sli_inv {sc : Scope} {N : List Str} {a lo hi : Pm.CE} {x : Expr} {l u s : Option Expr} {p p2 : Pos} (h : chkE sc N (.sli a lo hi) (.Subscript x (.Slice l u s p2) p) = true) :
    s.isNone = true ∧ vl a = true ∧ chkE sc N a x = true ∧ (match l with | none => isNop lo | some l => !isNop lo && vl lo && chkE sc N lo l) = true ∧ (match u with | none => isNop hi | some u => !isNop hi && vl hi && chkE sc N hi u) = true := by
  cases l <;> cases u
  all_goals
    unfold chkE at h
    simp only [Bool.and_eq_true] at h
    first | exact ⟨h.1.1.1.1, h.1.1.1.2, h.1.1.2, h.1.2, h.2⟩ | exact ⟨h.1.1.1.1, h.1.1.1.2, h.1.1.2, h.1.2, by simpa using h.2⟩ | exact ⟨h.1.1.1.1, h.1.1.1.2, h.1.1.2, by simpa using h.1.2, h.2⟩ | exact ⟨h.1.1.1.1, h.1.1.1.2, h.1.1.2, by simpa using h.1.2, by simpa using h.2⟩
theorem chkIs_inv {sc : Scope} {N : List Str} {T : String} {es : List Pm.CE} {args : List Expr} (h : chkIs sc N T es args = true) : ∃ c e t tp, es = [c] ∧ args = [e, .Name t tp] ∧ (t == (T : Str)) = true ∧ gloB sc t = true ∧ vl c = true ∧ chkE sc N c e = true := by
  unfold chkIs at h
  split at h
  · simp only [Bool.and_eq_true] at h
    exact ⟨_, _, _, _, rfl, rfl, h.1.1.1, h.1.1.2, h.1.2, h.2⟩
  · cases h
theorem lc_inv {sc : Scope} {N : List Str} {elt it : Pm.CE} {tg : TGt} {cond : List Pm.CE} {e : Expr} (h : chkE sc N (.lc elt tg it cond) e = true) : ∃ x t i ifs scope pos, e = .ListComp x [⟨t, i, ifs, 0⟩] scope pos ∧
    blkB N sc scope (tg.names N) = true ∧ chkT (fun x => locB scope x) N tg t = true ∧ (!enB it || tupB t) = true ∧ chkE sc N it i = true ∧ setB i = false ∧ vl elt = true ∧ chkE (relS scope sc) N elt x = true ∧ chkA (relS scope sc) N cond ifs = true ∧ ifs.length ≤ 1 := by
  cases e with
  | ListComp x gs scope pos =>
    match gs, h with
    | [⟨t, i, ifs, a⟩], h =>
      have h : ((a == 0) && blkB N sc scope (tg.names N) && chkT (fun x => locB scope x) N tg t && (!enB it || tupB t) && chkE sc N it i && !setB i && vl elt && chkE (relS scope sc) N elt x && chkA (relS scope sc) N cond ifs && decide (ifs.length ≤ 1)) = true := h
      rw [Bool.and_eq_true, Bool.and_eq_true, Bool.and_eq_true, Bool.and_eq_true, Bool.and_eq_true, Bool.and_eq_true, Bool.and_eq_true, Bool.and_eq_true, Bool.and_eq_true] at h
      obtain ⟨⟨⟨⟨⟨⟨⟨⟨⟨q0, q1⟩, q2⟩, q3⟩, q4⟩, q5⟩, q6⟩, q7⟩, q8⟩, q9⟩ := h
      obtain rfl : a = 0 := eq_of_beq q0
      exact ⟨x, t, i, ifs, scope, pos, rfl, q1, q2, q3, q4, by simpa using q5, q6, q7, q8, of_decide_eq_true q9⟩
    | [], h => exact absurd h Bool.false_ne_true
    | ⟨_, _, _, _⟩ :: _ :: _, h => exact absurd h Bool.false_ne_true
  | _ => exact absurd h Bool.false_ne_true
theorem PE.none {X : Cx} {e : Expr} {m : SS → O R} {sl : List SV} (h : ∀ ss, m ss = none) : PE X e (LE X.K g m sl) := ⟨fun pins s σ H Q I ⟨F, ss, r, s', e, _⟩ => by rw [h] at e; cases e⟩
theorem met_none {m : Me} {o : Pm.CE} {es : List Pm.CE} {sl : List SV} (h1 : m ≠ .index) (h2 : m ≠ .count) (ss : SS) : ev (.met m o es) sl ss = none := by
  show (toD (ev o sl ss)).bind (fun p => (toDs (evs es sl p.2)).bind fun q => (meD m p.1 q.1).map fun r => (r, q.2)) = none
  cases toD (ev o sl ss) with
  | none => rfl
  | some p =>
    show (toDs (evs es sl p.2)).bind _ = none
    cases toDs (evs es sl p.2) with
    | none => rfl
    | some q =>
      show (meD m p.1 q.1).map _ = none
      cases e : meD m p.1 q.1 with
      | none => rfl
      | some r => rcases (meD_list e).1 with rfl | rfl <;> contradiction
theorem base_of {o : Expr} {m : Str} {env : Env} (h : baseB o = true) : attributeBase o m env (eval o env) = eval o env := by
  unfold attributeBase
  split
  · exact absurd h Bool.false_ne_true
  · rfl
theorem dhas_inv {sc : Scope} {N : List Str} {b : Bool} {k : Pm.CE} {i : Nat} {e : Expr} (h : chkE sc N (.dhas b k i) e = true) : ∃ l p x np pos, e = .Compare l [p] [.Name x np] pos ∧ inB b p = true ∧ (N[i]? == some x) = true ∧ visB sc x = true ∧ noDbg x = true ∧ vl k = true ∧ chkE sc N k l = true := by
  unfold chkE at h
  split at h <;> first | (cases h; done) | (rename_i heq; cases heq; done) | (rename_i heq; cases heq)
  simp only [Bool.and_eq_true] at h
  exact ⟨_, _, _, _, _, rfl, h.1.1.1.1.1, h.1.1.1.1.2, h.1.1.1.2, h.1.1.2, h.1.2, h.2⟩
theorem dget_inv {sc : Scope} {N : List Str} {k : Pm.CE} {i : Nat} {e : Expr} (h : chkE sc N (.dget i k) e = true) : ∃ x np ke pos, e = .Subscript (.Name x np) ke pos ∧ (N[i]? == some x) = true ∧ visB sc x = true ∧ noDbg x = true ∧ vl k = true ∧ chkE sc N k ke = true := by
  unfold chkE at h
  split at h <;> first | (cases h; done) | (rename_i heq; cases heq; done) | (rename_i heq; cases heq)
  simp only [Bool.and_eq_true] at h
  exact ⟨_, _, _, _, rfl, h.1.1.1.1, h.1.1.1.2, h.1.1.2, h.1.2, h.2⟩
theorem dget2_inv {sc : Scope} {N : List Str} {k d : Pm.CE} {i : Nat} {e : Expr} (h : chkE sc N (.dget2 i k d) e = true) : ∃ x np m ap a b cp, e = .Call (.Attribute (.Name x np) m ap) [a, b] [] cp ∧ (N[i]? == some x) = true ∧ visB sc x = true ∧ noDbg x = true ∧ (m == "get") = true ∧ (ap.endLine == cp.line) = true ∧ vl k = true ∧ chkE sc N k a = true ∧ vl d = true ∧ chkE sc N d b = true := by
  unfold chkE at h
  split at h <;> first | (cases h; done) | (rename_i heq; cases heq; done) | (rename_i heq; cases heq)
  simp only [Bool.and_eq_true] at h
  obtain ⟨⟨⟨⟨⟨⟨⟨⟨a1, a2⟩, a3⟩, a4⟩, a5⟩, a6⟩, a7⟩, a8⟩, a9⟩ := h
  exact ⟨_, _, _, _, _, _, _, rfl, a1, a2, a3, a4, a5, a6, a7, a8, a9⟩
theorem newk_inv {sc : Scope} {N : List Str} {e : Expr} (h : chkE sc N .newk e = true) : ∃ pos, e = .Dict [] [] pos := by
  unfold chkE at h
  split at h <;> first | (cases h; done) | (rename_i heq; cases heq; done) | (rename_i heq; cases heq)
  exact ⟨_, rfl⟩
theorem nosl_of {sc : Scope} {N : List Str} {c : Pm.CE} {e : Expr} (h : chkE sc N c e = true) : NoSl e := by
  cases e with
  | Slice l u s p => cases c <;> exact absurd h Bool.false_ne_true
  | _ => exact fun _ _ => rfl
def spec : Pm.CE → Bool
  | .not _ | .and _ _ | .or _ _ | .cmp _ _ _ | .cmp2 _ _ _ _ _ | .ife _ _ _ | .dhas _ _ _ => true
  | _ => false
theorem val_of {sc : Scope} {N : List Str} {c : Pm.CE} {e : Expr} (hc : spec c = false) (h : chkE sc N c e = true) (env : Env) : ∀ whole, isTrue e env whole = (do let v ← whole; standAt e.pos; holding [v] (truthy v)) := by
  cases e with
  | UnaryOp p x pos =>
    cases c <;> first | exact absurd h Bool.false_ne_true | exact absurd hc Bool.noConfusion | skip
    have h : ((p == .USub) && _ && _) = true := h
    simp only [Bool.and_eq_true] at h
    obtain rfl : p = .USub := by cases p <;> first | rfl | exact absurd h.1.1 (by decide)
    intro _; rfl
  | BoolOp op vs pos => cases c <;> first | exact absurd h Bool.false_ne_true | exact absurd hc Bool.noConfusion
  | IfExp a b c' pos => cases c <;> first | exact absurd h Bool.false_ne_true | exact absurd hc Bool.noConfusion
  | Compare a b c' pos => cases c <;> first | exact absurd h Bool.false_ne_true | exact absurd hc Bool.noConfusion
  | _ => intro _; rfl
theorem PT.pw {X : Cx} {op : BoolOp} {vs : List Expr} {pos : Pos} {t : TT} (h : PT X (.BoolOp op vs pos) t) : PW X (.BoolOp op vs pos) t := ⟨fun whole pins s σ H Q I q => h.run pins s σ H Q I q⟩
theorem pt_ife {X : Cx} {c a b : Expr} {pos : Pos} {tc : TT} {ta tb : TT} (hc : PT X c tc) (ha : PT X a ta) (hb : PT X b tb) : PT X (.IfExp c a b pos) (fun σ H Q => tc σ H fun d H1 => if d = true then ta σ H1 Q else tb σ H1 Q) := by
  refine ⟨fun pins s σ H Q I h => ?_⟩
  rw [arm_isTrue_IfExp]
  refine wpAny_bind (thn (hc.run pins s σ H _ I h) fun d s1 ⟨H1, I1, q1⟩ => ?_)
  cases d with
  | true => exact ha.run pins s1 σ H1 Q I1 q1
  | false => exact hb.run pins s1 σ H1 Q I1 q1
theorem chkX_inv {sc : Scope} {N : List Str} {c : Pm.CE} {cs : List Pm.CE} {e : Expr} {es : List Expr} (h : chkX sc N (c :: cs) (e :: es) = true) :
    ((∃ c' e' p, c = .star c' ∧ e = .Starred e' p ∧ vl c' = true ∧ chkE sc N c' e' = true) ∨ (vl c = true ∧ chkE sc N c e = true) ∨
      (∃ a x q e' p, c = .star (.rg1 a) ∧ e = .Starred (.Call (.Name x (Prod.fst q : Pos)) [e'] [] (Prod.snd q : Pos)) p ∧ rangeB sc x = true ∧ vl a = true ∧ chkE sc N a e' = true) ∨
      (∃ a b x q e' f' p, c = .star (.rg2 a b) ∧ e = .Starred (.Call (.Name x (Prod.fst q : Pos)) [e', f'] [] (Prod.snd q : Pos)) p ∧ rangeB sc x = true ∧ vl a = true ∧ chkE sc N a e' = true ∧ vl b = true ∧ chkE sc N b f' = true)) ∧ chkX sc N cs es = true := by
  unfold chkX at h
  rw [Bool.and_eq_true] at h
  refine ⟨?_, h.2⟩
  have h1 := h.1
  split at h1
  · simp only [Bool.and_eq_true] at h1
    exact .inr (.inr (.inl ⟨_, _, (_, _), _, _, rfl, rfl, h1.1.1, h1.1.2, h1.2⟩))
  · simp only [Bool.and_eq_true] at h1
    exact .inr (.inr (.inr ⟨_, _, _, (_, _), _, _, _, rfl, rfl, h1.1.1.1.1, h1.1.1.1.2, h1.1.1.2, h1.1.2, h1.2⟩))
  · rw [Bool.and_eq_true] at h1
    exact .inl ⟨_, _, _, rfl, rfl, h1.1, h1.2⟩
  · rw [Bool.and_eq_true] at h1
    exact .inr (.inl h1)
theorem rX_inv {sc : Scope} {N : List Str} {cs : List Pm.CE} {f : Expr} {args : List Expr} {kws : List Keyword} {pos : Pos} (b : Bool) (h : chkE sc N (if b = true then .tup cs else .lst cs) (.Call f args kws pos) = true) :
    ∃ x np e, f = .Name x np ∧ args = [e] ∧ kws = [] ∧ x = (if b = true then "tuple" else "list" : Str) ∧ gloB sc x = true ∧ chkR sc N cs e = true := by
  cases b
  · replace h : chkE sc N (.lst cs) (.Call f args kws pos) = true := h
    unfold chkE at h
    split at h
    · rename_i heq
      cases heq
    · rename_i heq
      cases heq
      simp only [Bool.and_eq_true] at h
      obtain rfl := eq_of_beq h.1.1
      exact ⟨_, _, _, rfl, rfl, rfl, rfl, h.1.2, h.2⟩
    · cases h
  · replace h : chkE sc N (.tup cs) (.Call f args kws pos) = true := h
    unfold chkE at h
    split at h
    · rename_i heq
      cases heq
    · rename_i heq
      cases heq
      simp only [Bool.and_eq_true] at h
      obtain rfl := eq_of_beq h.1.1
      exact ⟨_, _, _, rfl, rfl, rfl, rfl, h.1.2, h.2⟩
    · cases h
theorem rR_inv {sc : Scope} {N : List Str} {cs : List Pm.CE} {e : Expr} (h : chkR sc N cs e = true) :
    (∃ a y q e', cs = [.star (.rg1 a)] ∧ e = .Call (.Name y (Prod.fst q : Pos)) [e'] [] (Prod.snd q : Pos) ∧ rangeB sc y = true ∧ vl a = true ∧ chkE sc N a e' = true) ∨
    (∃ a c y q e' f', cs = [.star (.rg2 a c)] ∧ e = .Call (.Name y (Prod.fst q : Pos)) [e', f'] [] (Prod.snd q : Pos) ∧ rangeB sc y = true ∧ vl a = true ∧ chkE sc N a e' = true ∧ vl c = true ∧ chkE sc N c f' = true) := by
  unfold chkR at h
  split at h
  · simp only [Bool.and_eq_true] at h
    exact .inl ⟨_, _, (_, _), _, rfl, rfl, h.1.1, h.1.2, h.2⟩
  · simp only [Bool.and_eq_true] at h
    exact .inr ⟨_, _, _, (_, _), _, _, rfl, rfl, h.1.1.1.1, h.1.1.1.2, h.1.1.2, h.1.2, h.2⟩
  · cases h
theorem it_inv {sc : Scope} {N : List Str} {c : Pm.CE} {e : Expr} (hv : ¬ vl c = true) (h : chkE sc N c e = true) :
    (∃ a y q e', c = .rg1 a ∧ e = .Call (.Name y (Prod.fst q : Pos)) [e'] [] (Prod.snd q : Pos) ∧ rangeB sc y = true ∧ vl a = true ∧ chkE sc N a e' = true) ∨
    (∃ a b y q e' f', c = .rg2 a b ∧ e = .Call (.Name y (Prod.fst q : Pos)) [e', f'] [] (Prod.snd q : Pos) ∧ rangeB sc y = true ∧ vl a = true ∧ chkE sc N a e' = true ∧ vl b = true ∧ chkE sc N b f' = true) ∨
    (∃ a q e', c = .enm a ∧ e = .Call (.Name "enumerate" (Prod.fst q : Pos)) [e'] [] (Prod.snd q : Pos) ∧ gloB sc "enumerate" = true ∧ vl a = true ∧ chkE sc N a e' = true) := by
  unfold chkE at h
  split at h <;> first | exact absurd rfl hv | (cases h; done) | skip
  · simp only [Bool.and_eq_true] at h
    exact .inl ⟨_, _, (_, _), _, rfl, rfl, h.1.1, h.1.2, h.2⟩
  · simp only [Bool.and_eq_true] at h
    exact .inr (.inl ⟨_, _, _, (_, _), _, _, rfl, rfl, h.1.1.1.1, h.1.1.1.2, h.1.1.2, h.1.2, h.2⟩)
  · simp only [Bool.and_eq_true] at h
    obtain rfl := eq_of_beq h.1.1.1
    exact .inr (.inr ⟨_, (_, _), _, rfl, rfl, h.1.1.2, h.1.2, h.2⟩)
section
variable {K : PySem.W.Frag} {g : G} {sl : List SV} {σ : L2.St} {H : Hp} {Q : VK}
theorem isSrc_of {i : Nat} (h : isSrc sl i = true) : sl[i]? = some .src := by
  unfold isSrc at h
  split at h
  · assumption
  · cases h
theorem Rp.srcAt {F : Addr → Prop} {ss : SS} {i : Nat} (r : Rp K g F ss sl σ H) (h : isSrc sl i = true) : σ[i]? = some (some (.ref g.A)) := by
  obtain ⟨x, e, h⟩ := r.slot i _ (isSrc_of h)
  rw [e, show x = _ from h]
theorem SrcOk.get {A C : Addr} {ss : SS} (s : SrcOk A C ss H) (k : SK) : DGet H A (.str k.name) (some (.int (ss.get k))) := by
  cases k
  · exact DGet.k (k := .inr "left") s.1
  · exact DGet.k (k := .inr "mixed") s.1
  · exact DGet.k (k := .inr "turn") s.1
theorem SrcOk.getC {A C : Addr} {ss : SS} (s : SrcOk A C ss H) : DGet H A (.str "cells") (some (.ref C)) := DGet.k (k := .inr "cells") s.1
theorem ev_sget {k : SK} {i : Nat} {ss s : SS} {r : R} (e : ev (.sget k i) sl ss = some (r, s)) : isSrc sl i = true ∧ r = .v (.int (ss.get k)) ∧ s = ss := by
  have e : (match isSrc sl i with | true => some (R.v (.int (ss.get k)), ss) | false => none) = some (r, s) := e
  split at e <;> cases e
  exact ⟨by assumption, rfl, rfl⟩
theorem ev_slen {i : Nat} {ss s : SS} {r : R} (e : ev (.slen i) sl ss = some (r, s)) : isSrc sl i = true ∧ r = .v (.int ss.cells.length) ∧ s = ss := by
  have e : (match isSrc sl i with | true => some (R.v (.int ss.cells.length), ss) | false => none) = some (r, s) := e
  split at e <;> cases e
  exact ⟨by assumption, rfl, rfl⟩
theorem LE.sget {k : SK} {i : Nat} (h : LE K g (ev (.sget k i) sl) sl σ H Q) : tDGet (tVar i) (tC (.str k.name)) σ H Q := by
  obtain ⟨F, ss, r, s, e, rp, kq⟩ := h
  obtain ⟨h1, rfl, rfl⟩ := ev_sget e
  exact ⟨_, rp.srcAt h1, _, _, rfl, rp.src.get k, kq _ H F rp.gr rp (.int _)⟩
theorem LE.slen {i : Nat} (h : LE K g (ev (.slen i) sl) sl σ H Q) : tCB (fun xs H Q => ∃ p ys, xs = [.ref p] ∧ (SqL K H p ys ∨ SqT K H p ys) ∧ Q (.int ys.length) H) (tCons (tDGet (tVar i) (tC (.str "cells"))) tNil) σ H Q := by
  obtain ⟨F, ss, r, s, e, rp, kq⟩ := h
  obtain ⟨h1, rfl, rfl⟩ := ev_slen e
  have key := kq (.int s.cells.length) H F rp.gr rp (.int _)
  have hl : (s.cells.reverse.map V.int).length = s.cells.length := by simp
  refine ⟨_, rp.srcAt h1, _, _, rfl, rp.src.getC, ?_⟩
  exact ⟨_, _, rfl, .inl (.of rp.src.2.1), by rw [hl]; exact key⟩
end
theorem PE.ex {X : Cx} {e : Expr} {t : List SV → TE} (h : ∀ s, PE X e (t s)) : PE X e (fun σ H Q => ∃ s, t s σ H Q) := ⟨fun pins s σ H Q I ⟨z, q⟩ => (h z).run pins s σ H Q I q⟩
theorem PTs.ex {X : Cx} {e : List Expr} {t : List SV → TT} (h : ∀ s, PTs X e (t s)) : PTs X e (fun σ H Q => ∃ s, t s σ H Q) := ⟨fun pins s σ H Q I ⟨z, q⟩ => (h z).run pins s σ H Q I q⟩
theorem PTs.imp {X : Cx} {e : List Expr} {t t' : TT} (h : PTs X e t) (i : ∀ σ H Q, t' σ H Q → t σ H Q) : PTs X e t' := ⟨fun pins s σ H Q I q => h.run pins s σ H Q I (i σ H Q q)⟩
theorem noset_fold {e : Expr} {env : Env} (h : setB e = false) : ∀ x, foldedSetIterable e env x = pure x := by
  intro x
  cases e <;> first | rfl | exact absurd h Bool.noConfusion
local macro_rules | `(tactic| decreasing_tactic) => `(tactic| first
  | (apply Prod.Lex.right; omega)
  | (apply Prod.Lex.left; omega)
  | (apply Prod.Lex.left; simp only [CE.bin.sizeOf_spec, CE.neg.sizeOf_spec, CE.not.sizeOf_spec, CE.and.sizeOf_spec, CE.or.sizeOf_spec, CE.cmp.sizeOf_spec, CE.cmp2.sizeOf_spec, CE.ife.sizeOf_spec, CE.tup.sizeOf_spec, CE.lst.sizeOf_spec, CE.star.sizeOf_spec, CE.lc.sizeOf_spec, CE.rg1.sizeOf_spec, CE.rg2.sizeOf_spec, CE.enm.sizeOf_spec, CE.idx.sizeOf_spec, CE.sli.sizeOf_spec, CE.rev.sizeOf_spec, CE.bi.sizeOf_spec, CE.met.sizeOf_spec, CE.call.sizeOf_spec, CE.dhas.sizeOf_spec, CE.dget.sizeOf_spec, CE.dget2.sizeOf_spec, List.cons.sizeOf_spec, List.nil.sizeOf_spec]; omega))
mutual
theorem ev_ok : ∀ (c : Pm.CE) (X : Cx) (e : Expr) (sl : List SV), Good X j → CallsOk X j (calls c) → GlobsOk X (globs c) → vl c = true → chkE X.env.scope X.N c e = true → PE X e (LE X.K g (ev c sl) sl)
  | .lit d, X, e, sl, G, C, B, _, h => by
    cases e with
    | Constant k n pos => exact lit_ok h
    | _ => exact absurd h Bool.false_ne_true
  | .loc i, X, e, sl, G, C, B, _, h => by
    cases e with
    | Name x pos =>
      have h : (X.N[i]? == some x && visB X.env.scope x && noDbg x) = true := h
      simp only [Bool.and_eq_true] at h
      exact PE.imp (pe_var (eq_of_beq h.1.1) (vis_of h.1.2) (dbg_of h.2).1 (dbg_of h.2).2) fun σ H Q q => LE.loc q fun _ => rfl
    | _ => exact absurd h Bool.false_ne_true
  | .glo y d, X, e, sl, G, C, B, _, h => by
    cases e with
    | Name x pos =>
      have h : (x == y && gloB X.env.scope x && noDbg x) = true := h
      simp only [Bool.and_eq_true] at h
      obtain rfl : x = y := eq_of_beq h.1.1
      obtain ⟨u, v, e1, e2, e3⟩ := B (x, d) List.mem_cons_self
      exact PE.imp (pe_glob (gl_of h.1.2) e1 e2 (dbg_of h.2).1) fun σ H Q q => LE.lit q (fun _ => rfl) fun F => e3 F H
    | _ => exact absurd h Bool.false_ne_true
  | .bin o a b, X, e, sl, G, C, B, _, h => by
    cases e with
    | BinOp l p r pos =>
      have h : (bopB o p && vl a && chkE X.env.scope X.N a l && vl b && chkE X.env.scope X.N b r) = true := h
      simp only [Bool.and_eq_true] at h
      obtain rfl : p = opOf o := by cases o <;> cases p <;> first | rfl | exact absurd h.1.1.1.1 Bool.false_ne_true
      exact PE.imp (pe_op (op_binD o) (ev_ok a X l sl G C.app.1 B.app.1 h.1.1.1.2 h.1.1.2) (ev_ok b X r sl G C.app.2 B.app.2 h.1.2 h.2)) fun σ H Q q => LE.two (fun _ => rfl) q
    | _ => exact absurd h Bool.false_ne_true
  | .neg a, X, e, sl, G, C, B, _, h => by
    cases e with
    | UnaryOp p x pos =>
      have h : ((p == .USub) && vl a && chkE X.env.scope X.N a x) = true := h
      simp only [Bool.and_eq_true] at h
      obtain rfl : p = .USub := by cases p <;> first | rfl | exact absurd h.1.1 (by decide)
      refine PE.imp (pe_un (r := rU1 X.K g negD) (fun pins s σ H x v Q I rx ⟨F, ss, dx, r, a, hx, e, k⟩ => ?_) (ev_ok a X x sl G C B h.1.2 h.2)) fun σ H Q q => LE.one (fun _ => rfl) q
      unfold negD at e
      split at e <;> cases e
      obtain rfl := hx.int
      exact un_neg pins s σ H _ v Q I rx ⟨_, rfl, k.val a (.int _)⟩
    | _ => exact absurd h Bool.false_ne_true
  | .not a, X, e, sl, G, C, B, _, h => by
    cases e with
    | UnaryOp p x pos =>
      have h : ((p == .Not) && vl a && chkE X.env.scope X.N a x) = true := h
      simp only [Bool.and_eq_true] at h
      obtain rfl : p = .Not := by cases p <;> first | rfl | exact absurd h.1.1 (by decide)
      exact PE.imp (pe_not (ev_ok a X x sl G C B h.1.2 h.2)) fun σ H Q q => LE.not q fun _ => rfl
    | _ => exact absurd h Bool.false_ne_true
  | .and a b, X, e, sl, G, C, B, _, h => by
    cases e with
    | BoolOp p vs pos =>
      match vs, h with
      | [], h => exact absurd h Bool.false_ne_true
      | [x], h => exact absurd h Bool.false_ne_true
      | x :: y :: [], h =>
        have h : ((p == .And) && vl a && chkE X.env.scope X.N a x && vl b && chkE X.env.scope X.N b y) = true := h
        simp only [Bool.and_eq_true] at h
        obtain rfl : p = .And := by cases p <;> first | rfl | exact absurd h.1.1.1.1 (by decide)
        exact PE.imp (pe_and (ev_ok a X x sl G C.app.1 B.app.1 h.1.1.1.2 h.1.1.2) (pe_one (ev_ok b X y sl G C.app.2 B.app.2 h.1.2 h.2))) fun σ H Q q => LE.and q fun _ => rfl
      | x :: y :: z :: rest, h =>
        have h : ((p == .And) && vl a && chkE X.env.scope X.N a x && vl b && chkE X.env.scope X.N b (.BoolOp .And (y :: z :: rest) pos)) = true := h
        simp only [Bool.and_eq_true] at h
        obtain rfl : p = .And := by cases p <;> first | rfl | exact absurd h.1.1.1.1 (by decide)
        exact PE.imp (pe_and (ev_ok a X x sl G C.app.1 B.app.1 h.1.1.1.2 h.1.1.2) (ev_ok b X _ sl G C.app.2 B.app.2 h.1.2 h.2)) fun σ H Q q => LE.and q fun _ => rfl
    | _ => exact absurd h Bool.false_ne_true
  | .or a b, X, e, sl, G, C, B, _, h => by
    cases e with
    | BoolOp p vs pos =>
      match vs, h with
      | [], h => exact absurd h Bool.false_ne_true
      | [x], h => exact absurd h Bool.false_ne_true
      | x :: y :: [], h =>
        have h : ((p == .Or) && vl a && chkE X.env.scope X.N a x && vl b && chkE X.env.scope X.N b y) = true := h
        simp only [Bool.and_eq_true] at h
        obtain rfl : p = .Or := by cases p <;> first | rfl | exact absurd h.1.1.1.1 (by decide)
        exact PE.imp (pe_or (ev_ok a X x sl G C.app.1 B.app.1 h.1.1.1.2 h.1.1.2) (pe_one (ev_ok b X y sl G C.app.2 B.app.2 h.1.2 h.2))) fun σ H Q q => LE.or q fun _ => rfl
      | x :: y :: z :: rest, h =>
        have h : ((p == .Or) && vl a && chkE X.env.scope X.N a x && vl b && chkE X.env.scope X.N b (.BoolOp .Or (y :: z :: rest) pos)) = true := h
        simp only [Bool.and_eq_true] at h
        obtain rfl : p = .Or := by cases p <;> first | rfl | exact absurd h.1.1.1.1 (by decide)
        exact PE.imp (pe_or (ev_ok a X x sl G C.app.1 B.app.1 h.1.1.1.2 h.1.1.2) (ev_ok b X _ sl G C.app.2 B.app.2 h.1.2 h.2)) fun σ H Q q => LE.or q fun _ => rfl
    | _ => exact absurd h Bool.false_ne_true
  | .cmp o a b, X, e, sl, G, C, B, _, h => by
    cases e with
    | Compare l ps rs pos =>
      match ps, rs, h with
      | [p], [r], h =>
        have h : (copB o p r && vl a && chkE X.env.scope X.N a l && vl b && chkE X.env.scope X.N b r) = true := h
        simp only [Bool.and_eq_true] at h
        obtain ⟨h1, h2⟩ := cop2_ok (g := g) G h.1.1.1.1
        exact PE.imp (pe_cmpR (r := rCx X.K g o r) h2 (ev_ok a X l sl G C.app.1 B.app.1 h.1.1.1.2 h.1.1.2) (ev_ok b X r sl G C.app.2 B.app.2 h.1.2 h.2) h1) fun σ H Q q => LE.cmpx (fun _ => rfl) (lit_of h.2) q
      | [], _, h => exact absurd h Bool.false_ne_true
      | _ :: _ :: _, [], h => first | exact absurd h Bool.false_ne_true | (rename_i x; cases x <;> exact absurd h Bool.false_ne_true)
      | [_], [], h => exact absurd h Bool.false_ne_true
      | [_], _ :: _ :: _, h => exact absurd h Bool.false_ne_true
      | _ :: _ :: _, _ :: _, h => first | exact absurd h Bool.false_ne_true | (rename_i x y; cases x <;> cases y <;> exact absurd h Bool.false_ne_true)
    | _ => exact absurd h Bool.false_ne_true
  | .cmp2 o o' a b c, X, e, sl, G, C, B, _, h => by
    cases e with
    | Compare l ps rs pos =>
      by_cases hp : ∃ p p' r r', ps = [p, p'] ∧ rs = [r, r']
      · obtain ⟨p, p', r, r', rfl, rfl⟩ := hp
        have h : (copB o p r && copB o' p' r' && !setB r && !setB r' && vl a && chkE X.env.scope X.N a l && vl b && chkE X.env.scope X.N b r && vl c && chkE X.env.scope X.N c r') = true := h
        simp only [Bool.and_eq_true] at h
        obtain ⟨⟨⟨⟨⟨⟨⟨⟨⟨q1, q2⟩, q3⟩, q4⟩, q5⟩, q6⟩, q7⟩, q8⟩, q9⟩, q10⟩ := h
        obtain ⟨h1, h2⟩ := cop2_ok (g := g) G q1
        obtain ⟨h3, h4⟩ := cop2_ok (g := g) G q2
        exact PE.imp (pe_chain (r := rCx X.K g o r) (r' := rCx X.K g o' r') h2 h4 (ev_ok a X l sl G C.app.1.app.1 B.app.1.app.1 q5 q6) (ev_ok b X r sl G C.app.1.app.2 B.app.1.app.2 q7 q8) (ev_ok c X r' sl G C.app.2 B.app.2 q9 q10) h3)
          fun σ H Q q => LE.chainx q (lit_of q8) (lit_of q10) fun _ => rfl
      · match ps, rs, h, hp with
        | [p, p'], [r, r'], h, hp => exact absurd ⟨p, p', r, r', rfl, rfl⟩ hp
        | [], _, h, _ => exact absurd h Bool.false_ne_true
        | [_], _, h, _ => exact absurd h Bool.false_ne_true
        | [_, _], [], h, _ => exact absurd h Bool.false_ne_true
        | [_, _], [_], h, _ => exact absurd h Bool.false_ne_true
        | [_, _], _ :: _ :: _ :: _, h, _ => exact absurd h Bool.false_ne_true
        | _ :: _ :: _ :: _, _, h, _ => exact absurd h Bool.false_ne_true
    | _ => exact absurd h Bool.false_ne_true
  | .ife c a b, X, e, sl, G, C, B, _, h => by
    cases e with
    | IfExp t x y pos =>
      have h : (vl c && chkE X.env.scope X.N c t && vl a && chkE X.env.scope X.N a x && vl b && chkE X.env.scope X.N b y) = true := h
      simp only [Bool.and_eq_true] at h
      obtain ⟨⟨⟨⟨⟨q1, q2⟩, q3⟩, q4⟩, q5⟩, q6⟩ := h
      exact PE.imp (pe_ifExp (evT_ok c X t sl G C.app.1.app.1 B.app.1.app.1 q1 q2) (ev_ok a X x sl G C.app.1.app.2 B.app.1.app.2 q3 q4) (ev_ok b X y sl G C.app.2 B.app.2 q5 q6)) fun σ H Q q => LE.ife q fun _ => rfl
    | _ => exact absurd h Bool.false_ne_true
  | .tup es, X, e, sl, G, C, B, _, h => by
    cases e with
    | Tuple xs k pos => exact PE.imp (pe_tup (evX_ok es X xs sl G C B h)) fun σ H Q q => LX.tup q fun _ => rfl
    | Call f args kws pos => exact evR_ok true es X f args kws pos sl G C B h
    | _ => exact absurd h Bool.false_ne_true
  | .lst es, X, e, sl, G, C, B, _, h => by
    cases e with
    | List xs pos => exact PE.imp (pe_lst (evX_ok es X xs sl G C B h)) fun σ H Q q => LX.lst q fun _ => rfl
    | Call f args kws pos => exact evR_ok false es X f args kws pos sl G C B h
    | _ => exact absurd h Bool.false_ne_true
  | .star _, _, _, _, _, _, _, h, _ => absurd h Bool.false_ne_true
  | .lc elt tg it cond, X, e, sl, G, C, B, _, h => by
    obtain ⟨x, t, i, ifs, scope, pos, rfl, q1, q2, q3, q4, q5, q6, q7, q8, q9⟩ := lc_inv h
    have ok : BlkOk X.N X.env.scope scope (tg.names X.N) := blk_ok q1
    have eb : ∀ (s' : List SV) (s : Shared) (H : Hp) (C' : Addr) (cl : List (Str × Addr)) (fp : List Addr), PE (X.blk s H scope (compEnvC scope cl C' X.env) fp) x (LE X.K g (ev elt s') s') := fun s' s H C' cl fp =>
      ev_ok elt _ x s' (G.blk _ _ _ _ _) C.app.1.app.1 B.app.1.app.1 q6 q7
    have cb : ∀ (s' : List SV) (s : Shared) (H : Hp) (C' : Addr) (cl : List (Str × Addr)) (fp : List Addr), PTs (X.blk s H scope (compEnvC scope cl C' X.env) fp) ifs (LT X.K g (fun ss => toC (evs cond s' ss)) s') := fun s' s H C' cl fp =>
      evC_ok cond _ ifs s' (G.blk _ _ _ _ _) C.app.2 B.app.2 q8 q9
    have hI : PI X t i (LI X.K g false (fun ss => toI (ev it sl ss)) sl) := evI_ok false it X t i sl G C.app.1.app.2 B.app.1.app.2 (fun z => by cases z) q3 q4
    have key := pe_lc (g := LG X.K g tg) (pos := pos) (own := tg.names X.N) G.calm G.nd hI ok (fun s H C' cl fp => tg_ok (g := g) (G.blk s H scope (compEnvC scope cl C' X.env) fp) (fun x => locB scope x) (st_of ok.uniq rfl) tg t q2)
      (fun s H C' cl fp => PTs.ex fun s' => cb s' s H C' cl fp) (fun s H C' cl fp => PE.ex fun s' => eb s' s H C' cl fp) (noset_fold q5)
    rw [names_snd] at key
    exact PE.imp key fun σ H Q q => LE.lc (cn := fun s' ss => toC (evs cond s' ss)) (elt := fun s' ss => ev elt s' ss) (el := fun s' ss => toE (ev elt s' ss)) q (fun _ => rfl) (fun _ _ => rfl) (fun _ _ _ z => z) (fun s' _ _ _ z => ⟨s', z⟩) (fun s' _ _ _ z => ⟨s', z⟩)
  | .rg1 _, _, _, _, _, _, _, h, _ => absurd h Bool.false_ne_true
  | .rg2 _ _, _, _, _, _, _, _, h, _ => absurd h Bool.false_ne_true
  | .rg3 _ _ _, _, _, _, _, _, _, h, _ => absurd h Bool.false_ne_true
  | .enm _, _, _, _, _, _, _, h, _ => absurd h Bool.false_ne_true
  | .zip _ _, _, _, _, _, _, _, h, _ => absurd h Bool.false_ne_true
  | .idx a i, X, e, sl, G, C, B, _, h => by
    cases e with
    | Subscript x y pos =>
      have h : (vl a && chkE X.env.scope X.N a x && vl i && chkE X.env.scope X.N i y) = true := h
      simp only [Bool.and_eq_true] at h
      refine PE.imp (pe_ix (ix_ok g) (ev_ok a X x sl G C.app.1 B.app.1 h.1.1.1 h.1.1.2) (ev_ok i X y sl G C.app.2 B.app.2 h.1.2 h.2) (chk_ix h.2)) fun σ H Q q => LE.two (fun ss => ?_) q
      show (toD (ev a sl ss)).bind _ = _
      congr 1
      funext p
      congr 1
      funext q
      rw [Option.map_map]
      rfl
    | _ => exact absurd h Bool.false_ne_true
  | .sli a lo hi, X, e, sl, G, C, B, _, h => by
    cases e with
    | Subscript x y pos =>
      cases y with
      | Slice l u s p2 =>
        obtain ⟨q1, q2, q3, q4, q5⟩ := sli_inv h
        obtain rfl : s = none := by cases s <;> first | rfl | cases q1
        have hl : PO X l (LP X.K g (fun ss => toP lo (ev lo sl ss)) sl) := by
          cases l with
          | none => exact po_nop q4
          | some e =>
            simp only [Bool.and_eq_true, Bool.not_eq_true'] at q4
            exact po_ex q4.1.1 (ev_ok lo X e sl G C.app.1.app.2 B.app.1.app.2 q4.1.2 q4.2)
        have hu : PO X u (LP X.K g (fun ss => toP hi (ev hi sl ss)) sl) := by
          cases u with
          | none => exact po_nop q5
          | some e =>
            simp only [Bool.and_eq_true, Bool.not_eq_true'] at q5
            exact po_ex q5.1.1 (ev_ok hi X e sl G C.app.2 B.app.2 q5.1.2 q5.2)
        exact PE.imp (pe_slice (sl_list.or sl_tupA) (ev_ok a X x sl G C.app.1.app.1 B.app.1.app.1 q2 q3) hl hu) fun σ H Q q => LE.sli q fun _ => rfl
      | _ => exact absurd h Bool.false_ne_true
    | _ => exact absurd h Bool.false_ne_true
  | .nop, _, _, _, _, _, _, h, _ => absurd h Bool.false_ne_true
  | .rev a, X, e, sl, G, C, B, _, h => by
    cases e with
    | Subscript x s pos =>
      have h : (revB s && vl a && chkE X.env.scope X.N a x) = true := h
      simp only [Bool.and_eq_true] at h
      obtain ⟨k, p1, p2, p3, rfl⟩ : ∃ k p1 p2 p3, s = .Slice none none (some (.UnaryOp .USub (.Constant (.int 1) k p1) p2)) p3 := by
        have h1 := h.1.1
        unfold revB at h1
        split at h1
        · exact ⟨_, _, _, _, rfl⟩
        · cases h1
      refine PE.imp (pe_revX (ev_ok a X x sl G C B h.1.2 h.2)) fun σ H Q q => ?_
      obtain ⟨F, ss, r, ss', e, rp, k⟩ := q
      obtain ⟨d, e1, e2⟩ := O.f_of e
      obtain ⟨ra, e3, e4⟩ := O.f_of e1
      refine ⟨F, ss, ra, _, e3, rp, fun x H1 F1 g1 p1 h1 => ?_⟩
      unfold revD at e2
      split at e2
      · cases e2
        obtain ⟨p, vs, rfl, sp, fp⟩ := (h1.rd e4).lst
        exact ⟨p, vs, rfl, .inl ⟨.of sp, fun q hq => Kt.lst p1.at (fun z H2 F2 g2 s2 h2 => k z H2 F2 (g1.trans g2) (p1.step g2 s2) (h2.early g1)) fp.rev hq⟩⟩
      · cases e2
        obtain ⟨p, vs, rfl, sp, fp⟩ := (h1.rd e4).tup
        exact ⟨p, vs, rfl, .inr ⟨sp, fun q hq => Kt.tup p1.at (fun z H2 F2 g2 s2 h2 => k z H2 F2 (g1.trans g2) (p1.step g2 s2) (h2.early g1)) fp.rev hq⟩⟩
      · cases e2
    | _ => exact absurd h Bool.false_ne_true
  | .bi f es, X, e, sl, G, C, B, _, h => by
    cases e with
    | Call fn args kws pos =>
      cases fn with
      | Name x npos =>
        cases kws with
        | cons _ _ => exact absurd h Bool.false_ne_true
        | nil =>
          have h : ((x == biName f) && gloB X.env.scope x && (match biIs f with
            | some T => chkIs X.env.scope X.N T es args
            | none => biPlain f && chkA X.env.scope X.N es args && !args.isEmpty)) = true := h
          simp only [Bool.and_eq_true] at h
          obtain ⟨⟨q1, q2⟩, q3⟩ := h
          obtain rfl : x = biName f := eq_of_beq q1
          have hm : biName f ∈ bltNames → X.mg (biName f) = none := fun z => G.blt _ z
          cases hf : biIs f with
          | some T =>
            rw [hf] at q3
            obtain ⟨c, e, t, tp, rfl, rfl, r1, r2, r3, r4⟩ := chkIs_inv q3
            · skip
              obtain rfl : t = (T : Str) := eq_of_beq r1
              have hc : PE X e (LE X.K g (ev c sl) sl) := ev_ok c X e sl G (C.app (m := [])).1 (B.app (m := [])).1 r3 r4
              have ht : T ∈ ["int", "bool", "tuple", "str", "list"] ∧ biName f = "isinstance" ∧ biD f = isTD T ∧ bootBuiltins (T : Str) = some (.type T) ∧ X.mg (T : Str) = none ∧ (T : Str) ≠ "__name__" ∧ ((T : Str) == ("__debug__" : Str)) = false := by
                cases f <;> cases hf
                all_goals exact ⟨by simp, rfl, rfl, by decide +kernel, G.blt _ (by decide +kernel), by decide, by decide⟩
              obtain ⟨t1, t2, t3, t4, t5, t6, t7⟩ := ht
              have pt : PE X (.Name (T : Str) tp) (tC (.ty T)) := pe_bltn (gl_of r2) t5 t4 rfl t6 t7
              rw [t2] at q2 hm ⊢
              refine PE.imp (pe_callB (bi_isT (g := g) t1) (gl_of q2) (hm (by decide +kernel)) (by decide +kernel) (pa_cons hc (pa_cons pt pa_nil) (star_cons (chk_star r4))) (by decide) (by decide) (star_cons (chk_star r4)) rfl) fun σ H Q q => ?_
              obtain ⟨F, ss, r, ss', e1, rp, k⟩ := q
              obtain ⟨ds, e2, e3⟩ := O.f_of e1
              obtain ⟨rs, e4, e5⟩ := O.f_of e2
              obtain ⟨⟨ra, s1⟩, e6, e7⟩ := bind_of e4
              cases e7
              obtain ⟨d, e8, e9⟩ := bind_of e5
              cases e9
              rw [t3] at e3
              have e3 : some (bl (isT T d)) = some r := e3
              cases e3
              exact ⟨F, ss, ra, _, e6, rp, fun x H1 F1 g1 p1 h1 => ⟨F1, _, d, x, rfl, p1.at, h1.rd e8, fun z H2 F2 g2 s2 h2 => k z H2 F2 (g1.trans g2) (p1.step g2 s2) (h2.early g1)⟩⟩
          | none =>
            rw [hf] at q3
            simp only [Bool.and_eq_true] at q3
            obtain ⟨⟨r1, r2⟩, r3⟩ := q3
            have hm := hm ((bi_free G f).resolve_right (by cases f <;> first | exact absurd r1 Bool.false_ne_true | decide))
            have hn : biName f ≠ "__name__" ∧ (biName f == ("__debug__" : Str)) = false := by cases f <;> exact ⟨by decide, by decide⟩
            have pa := evA_ok es X args sl G C B r2
            match es, args, r2, r3, pa with
            | c :: cs, e :: es', r2, _, pa =>
              have r2 : (vl c && chkE X.env.scope X.N c e && chkA X.env.scope X.N cs es') = true := r2
              simp only [Bool.and_eq_true] at r2
              rcases bi_rule (g := g) G f r1 with ⟨id, b1, b2⟩ | ⟨T, b1, b2⟩
              · exact PE.imp (pe_callB b2 (gl_of q2) hm b1 pa hn.1 hn.2 (star_cons (chk_star r2.1.2)) (chkA_any r2.2)) fun σ H Q q => LE.bi q fun _ => rfl
              · exact PE.imp (pe_callTy b2 (gl_of q2) hm b1 pa hn.1 hn.2 (star_cons (chk_star r2.1.2)) (chkA_any r2.2)) fun σ H Q q => LE.bi q fun _ => rfl
            | _, [], _, r3, _ => exact absurd r3 (by decide)
            | [], _ :: _, r2, _, _ => exact absurd r2 Bool.false_ne_true
      | _ => cases kws <;> exact absurd h Bool.false_ne_true
    | _ => exact absurd h Bool.false_ne_true
  | .met m o es, X, e, sl, G, C, B, _, h => by
    unfold chkE at h
    split at h <;> first | (cases h; done) | (rename_i heq; cases heq; done) | (rename_i heq; cases heq)
    simp only [Bool.and_eq_true] at h
    obtain ⟨⟨⟨⟨⟨q1, q2⟩, q3⟩, q4⟩, q5⟩, q6⟩ := h
    obtain rfl := eq_of_beq q1
    have ho := ev_ok o X _ sl G C.app.1 B.app.1 q4 q5
    have ha := evA_ok es X _ sl G C.app.2 B.app.2 q6
    have hs : ∀ {a : Expr}, chkA X.env.scope X.N es [a] = true → ∀ v p, a ≠ .Starred v p := by
      intro a hh
      match es, hh with
      | [c], hh =>
        have hh : (vl c && chkE X.env.scope X.N c a && chkA X.env.scope X.N [] []) = true := hh
        simp only [Bool.and_eq_true] at hh
        exact chk_star hh.1.2
      | [], hh => exact absurd hh Bool.false_ne_true
      | _ :: _ :: _, hh =>
        simp only [chkA, Bool.and_false] at hh
        exact absurd hh Bool.false_ne_true
    have hs := hs q6
    have hu : X.A.units + 65 < cLine := by have := G.u; omega
    cases m with
    | index => exact PE.imp (pe_bm PySem.F.plainAttrs_list PySem.F.slot_list_index PySem.F.type_list_index (mt_ix (g := g) hu) ho ha (base_of q3) (by rw [star_cons hs]; rfl) q2 (star_cons hs) rfl) fun σ H Q q => LE.met q
    | count => exact PE.imp (pe_bm PySem.F.plainAttrs_list PySem.F.slot_list_count PySem.F.type_list_count (mt_ct (g := g) hu) ho ha (base_of q3) (by rw [star_cons hs]; rfl) q2 (star_cons hs) rfl) fun σ H Q q => LE.met q
    | _ => exact PE.none g (fun ss => met_none (by simp) (by simp) ss)
  | .dhas b k i, X, e, sl, G, C, B, _, h => by
    obtain ⟨l, p, x, np, pos, rfl, q0, q1, q2, q3, q4, q5⟩ := dhas_inv h
    have hu : X.A.units + 1 < cLine := by have := G.u; omega
    have hk := ev_ok k X _ sl G C B q4 q5
    have hv : PE X (.Name x np) (tVar i) := pe_var (eq_of_beq q1) (vis_of q2) (dbg_of q3).1 (dbg_of q3).2
    cases b <;> cases p <;> first | exact absurd q0 Bool.false_ne_true | skip
    · exact PE.imp (pe_cmp (pc_dnotin hu hk hv) rfl) fun σ H Q q => LE.dhas q
    · exact PE.imp (pe_cmp (pc_din hu hk hv) rfl) fun σ H Q q => LE.dhas q
  | .dget i k, X, e, sl, G, C, B, _, h => by
    obtain ⟨x, np, ke, pos, rfl, q1, q2, q3, q4, q5⟩ := dget_inv h
    exact PE.imp (pe_dget (by have := G.u; omega) (pe_var (eq_of_beq q1) (vis_of q2) (dbg_of q3).1 (dbg_of q3).2) (ev_ok k X _ sl G C B q4 q5) (nosl_of q5)) fun σ H Q q => LE.dget q
  | .dget2 i k d, X, e, sl, G, C, B, _, h => by
    obtain ⟨x, np, m, ap, a, b, cp, rfl, q1, q2, q3, q4, q5, q6, q7, q8, q9⟩ := dget2_inv h
    obtain rfl := eq_of_beq q4
    exact PE.imp (pe_dget2 (by have := G.u; omega) (pe_var (eq_of_beq q1) (vis_of q2) (dbg_of q3).1 (dbg_of q3).2) (ev_ok k X _ sl G C.app.1 B.app.1 q6 q7) (ev_ok d X _ sl G C.app.2 B.app.2 q8 q9)
      ⟨rfl, by rw [star_cons (chk_star q7), star_cons (chk_star q9)]; rfl, q5, by rw [star_cons (chk_star q7), star_cons (chk_star q9)]; rfl⟩) fun σ H Q q => LE.dget2 q
  | .call y f es, X, e, sl, G, C, B, _, h => by
    cases e with
    | Call fn args kws pos =>
      cases fn with
      | Name x npos =>
        cases kws with
        | cons _ _ => exact absurd h Bool.false_ne_true
        | nil =>
          have h : ((x == y) && gloB X.env.scope x && noDbg x && chkA X.env.scope X.N es args) = true := h
          simp only [Bool.and_eq_true] at h
          obtain ⟨⟨⟨q1, q2⟩, q3⟩, q4⟩ := h
          obtain rfl : x = y := eq_of_beq q1
          obtain ⟨k, hk, a, fd, ps, np, Fn, e1, e2, e3, e4, e5⟩ := C (x, f) List.mem_cons_self
          have C' : CallsOk X j (callss es) := fun p hp => C p (List.mem_cons_of_mem _ hp)
          have pa := evA_ok es X args sl G C' B q4
          match args, q4, pa with
          | [], q4, pa =>
            refine PE.imp (pe_callG0 Fn (G.room.mono hk) G.gu (gl_of q2) e2 e3 e4 (dbg_of q3).1) fun σ H Q q => ?_
            have q := LE.call (np := np) q (fun _ => rfl) e5
            match es, q4, q with
            | [], _, q => exact LA.nil q
            | _ :: _, q4, _ => exact absurd q4 Bool.false_ne_true
          | e :: es', q4, pa =>
            match es, q4, pa with
            | [], q4, _ => exact absurd q4 Bool.false_ne_true
            | c :: cs, q4, pa =>
              have q4 : (vl c && chkE X.env.scope X.N c e && chkA X.env.scope X.N cs es') = true := q4
              simp only [Bool.and_eq_true] at q4
              exact PE.imp (pe_callG Fn (G.room.mono hk) G.gu (gl_of q2) e2 e3 e4 (dbg_of q3).1 pa (star_cons (chk_star q4.1.2)) (chkA_any q4.2)) fun σ H Q q => LE.call q (fun _ => rfl) e5
      | _ => cases kws <;> exact absurd h Bool.false_ne_true
    | _ => exact absurd h Bool.false_ne_true
  | .sget k i, X, e, sl, G, C, B, _, h => by
    unfold chkE at h
    split at h <;> first | (cases h; done) | (rename_i heq; cases heq; done) | (rename_i heq; cases heq)
    simp only [Bool.and_eq_true] at h
    obtain ⟨⟨⟨q1, q2⟩, q3⟩, q4⟩ := h
    obtain rfl := eq_of_beq q4
    exact PE.imp (pe_dget (by have := G.u; omega) (pe_var (eq_of_beq q1) (vis_of q2) (dbg_of q3).1 (dbg_of q3).2) pe_str (fun _ _ => rfl)) fun σ H Q q => LE.sget q
  | .slen i, X, e, sl, G, C, B, _, h => by
    unfold chkE at h
    split at h <;> first | (cases h; done) | (rename_i heq; cases heq; done) | (rename_i heq; cases heq)
    simp only [Bool.and_eq_true] at h
    obtain ⟨⟨⟨⟨⟨q0, q5⟩, q1⟩, q2⟩, q3⟩, q4⟩ := h
    obtain rfl := eq_of_beq q4
    obtain rfl := eq_of_beq q0
    exact PE.imp (pe_callB call_len_seq (gl_of q5) (G.blt "len" (by decide +kernel)) boot_len (pa_cons (pe_dget (by have := G.u; omega) (pe_var (eq_of_beq q1) (vis_of q2) (dbg_of q3).1 (dbg_of q3).2) pe_str (fun _ _ => rfl)) pa_nil)) fun σ H Q q => LE.slen q
  | .newk, X, e, sl, G, C, B, _, h => by
    obtain ⟨pos, rfl⟩ := newk_inv h
    exact PE.imp pe_dnewK fun σ H Q q => LE.newk q
  | .newt, X, e, sl, G, C, B, _, h => by
    cases e <;> exact absurd h Bool.false_ne_true
termination_by c X e => (sizeOf c, 0)
theorem evT_ok : ∀ (c : Pm.CE) (X : Cx) (e : Expr) (sl : List SV), Good X j → CallsOk X j (calls c) → GlobsOk X (globs c) → vl c = true → chkE X.env.scope X.N c e = true → PT X e (LT X.K g (fun ss => toB (ev c sl ss)) sl)
  | .not a, X, e, sl, G, C, B, _, h => by
    cases e with
    | UnaryOp p x pos =>
      have h : ((p == .Not) && vl a && chkE X.env.scope X.N a x) = true := h
      simp only [Bool.and_eq_true] at h
      obtain rfl : p = .Not := by cases p <;> first | rfl | exact absurd h.1.1 (by decide)
      exact PT.imp (pt_not (evT_ok a X x sl G C B h.1.2 h.2)) fun σ H Q q => LT.not q fun _ => rfl
    | _ => exact absurd h Bool.false_ne_true
  | .and a b, X, e, sl, G, C, B, _, h => by
    cases e with
    | BoolOp p vs pos =>
      match vs, h with
      | [], h => exact absurd h Bool.false_ne_true
      | [x], h => exact absurd h Bool.false_ne_true
      | x :: y :: [], h =>
        have h : ((p == .And) && vl a && chkE X.env.scope X.N a x && vl b && chkE X.env.scope X.N b y) = true := h
        simp only [Bool.and_eq_true] at h
        obtain rfl : p = .And := by cases p <;> first | rfl | exact absurd h.1.1.1.1 (by decide)
        exact PT.imp (pw_and (evT_ok a X x sl G C.app.1 B.app.1 h.1.1.1.2 h.1.1.2) (pw_and1 (evT_ok b X y sl G C.app.2 B.app.2 h.1.2 h.2))).pt fun σ H Q q => LT.and q fun _ => rfl
      | x :: y :: z :: rest, h =>
        have h : ((p == .And) && vl a && chkE X.env.scope X.N a x && vl b && chkE X.env.scope X.N b (.BoolOp .And (y :: z :: rest) pos)) = true := h
        simp only [Bool.and_eq_true] at h
        obtain rfl : p = .And := by cases p <;> first | rfl | exact absurd h.1.1.1.1 (by decide)
        exact PT.imp (pw_and (evT_ok a X x sl G C.app.1 B.app.1 h.1.1.1.2 h.1.1.2) (PT.pw (evT_ok b X _ sl G C.app.2 B.app.2 h.1.2 h.2))).pt fun σ H Q q => LT.and q fun _ => rfl
    | _ => exact absurd h Bool.false_ne_true
  | .or a b, X, e, sl, G, C, B, _, h => by
    cases e with
    | BoolOp p vs pos =>
      match vs, h with
      | [], h => exact absurd h Bool.false_ne_true
      | [x], h => exact absurd h Bool.false_ne_true
      | x :: y :: [], h =>
        have h : ((p == .Or) && vl a && chkE X.env.scope X.N a x && vl b && chkE X.env.scope X.N b y) = true := h
        simp only [Bool.and_eq_true] at h
        obtain rfl : p = .Or := by cases p <;> first | rfl | exact absurd h.1.1.1.1 (by decide)
        exact PT.imp (pw_or (evT_ok a X x sl G C.app.1 B.app.1 h.1.1.1.2 h.1.1.2) (pw_or1 (evT_ok b X y sl G C.app.2 B.app.2 h.1.2 h.2))).pt fun σ H Q q => LT.or q fun _ => rfl
      | x :: y :: z :: rest, h =>
        have h : ((p == .Or) && vl a && chkE X.env.scope X.N a x && vl b && chkE X.env.scope X.N b (.BoolOp .Or (y :: z :: rest) pos)) = true := h
        simp only [Bool.and_eq_true] at h
        obtain rfl : p = .Or := by cases p <;> first | rfl | exact absurd h.1.1.1.1 (by decide)
        exact PT.imp (pw_or (evT_ok a X x sl G C.app.1 B.app.1 h.1.1.1.2 h.1.1.2) (PT.pw (evT_ok b X _ sl G C.app.2 B.app.2 h.1.2 h.2))).pt fun σ H Q q => LT.or q fun _ => rfl
    | _ => exact absurd h Bool.false_ne_true
  | .cmp o a b, X, e, sl, G, C, B, hv, h => by
    by_cases hp : ∃ l p r pos, e = .Compare l [p] [r] pos
    · obtain ⟨l, p, r, pos, rfl⟩ := hp
      have h : (copB o p r && vl a && chkE X.env.scope X.N a l && vl b && chkE X.env.scope X.N b r) = true := h
      simp only [Bool.and_eq_true] at h
      obtain ⟨h1, h2⟩ := cop2_ok (g := g) G h.1.1.1.1
      exact PT.imp (pt_cmpR (r := rCx X.K g o r) h2 (ev_ok a X l sl G C.app.1 B.app.1 h.1.1.1.2 h.1.1.2) (ev_ok b X r sl G C.app.2 B.app.2 h.1.2 h.2) h1) fun σ H Q q => LT.test (fun Q q => LE.cmpx (fun _ => rfl) (lit_of h.2) q) q
    · cases e with
      | Compare l ps rs pos =>
        match ps, rs, h, hp with
        | [p], [r], h, hp => exact absurd ⟨l, p, r, pos, rfl⟩ hp
        | [], _, h, _ => exact absurd h Bool.false_ne_true
        | [_], [], h, _ => exact absurd h Bool.false_ne_true
        | [_], _ :: _ :: _, h, _ => exact absurd h Bool.false_ne_true
        | _ :: _ :: _, [], h, _ => exact absurd h Bool.false_ne_true
        | _ :: _ :: _, [_], h, _ => exact absurd h Bool.false_ne_true
        | _ :: _ :: _, _ :: _ :: _, h, _ => exact absurd h Bool.false_ne_true
      | _ => exact absurd h Bool.false_ne_true
  | .cmp2 o o' a b c, X, e, sl, G, C, B, _, h => by
    cases e with
    | Compare l ps rs pos =>
      by_cases hp : ∃ p p' r r', ps = [p, p'] ∧ rs = [r, r']
      · obtain ⟨p, p', r, r', rfl, rfl⟩ := hp
        have h : (copB o p r && copB o' p' r' && !setB r && !setB r' && vl a && chkE X.env.scope X.N a l && vl b && chkE X.env.scope X.N b r && vl c && chkE X.env.scope X.N c r') = true := h
        simp only [Bool.and_eq_true] at h
        obtain ⟨⟨⟨⟨⟨⟨⟨⟨⟨q1, q2⟩, q3⟩, q4⟩, q5⟩, q6⟩, q7⟩, q8⟩, q9⟩, q10⟩ := h
        obtain ⟨h1, h2⟩ := cop2_ok (g := g) G q1
        obtain ⟨h3, h4⟩ := cop2_ok (g := g) G q2
        exact PT.imp (pt_chain (r := rCx X.K g o r) (r' := rCx X.K g o' r') h2 h4 (ev_ok a X l sl G C.app.1.app.1 B.app.1.app.1 q5 q6) (ev_ok b X r sl G C.app.1.app.2 B.app.1.app.2 q7 q8) (ev_ok c X r' sl G C.app.2 B.app.2 q9 q10) h3)
          fun σ H Q q => LT.test (fun Q q => LE.chainx q (lit_of q8) (lit_of q10) fun _ => rfl) q
      · match ps, rs, h, hp with
        | [p, p'], [r, r'], h, hp => exact absurd ⟨p, p', r, r', rfl, rfl⟩ hp
        | [], _, h, _ => exact absurd h Bool.false_ne_true
        | [_], _, h, _ => exact absurd h Bool.false_ne_true
        | [_, _], [], h, _ => exact absurd h Bool.false_ne_true
        | [_, _], [_], h, _ => exact absurd h Bool.false_ne_true
        | [_, _], _ :: _ :: _ :: _, h, _ => exact absurd h Bool.false_ne_true
        | _ :: _ :: _ :: _, _, h, _ => exact absurd h Bool.false_ne_true
    | _ => exact absurd h Bool.false_ne_true
  | .ife c a b, X, e, sl, G, C, B, _, h => by
    cases e with
    | IfExp t x y pos =>
      have h : (vl c && chkE X.env.scope X.N c t && vl a && chkE X.env.scope X.N a x && vl b && chkE X.env.scope X.N b y) = true := h
      simp only [Bool.and_eq_true] at h
      obtain ⟨⟨⟨⟨⟨q1, q2⟩, q3⟩, q4⟩, q5⟩, q6⟩ := h
      exact PT.imp (pt_ife (evT_ok c X t sl G C.app.1.app.1 B.app.1.app.1 q1 q2) (evT_ok a X x sl G C.app.1.app.2 B.app.1.app.2 q3 q4) (evT_ok b X y sl G C.app.2 B.app.2 q5 q6)) fun σ H Q q => LT.ife q fun _ => rfl
    | _ => exact absurd h Bool.false_ne_true
  | .dhas b k i, X, e, sl, G, C, B, _, h => by
    obtain ⟨l, p, x, np, pos, rfl, q0, q1, q2, q3, q4, q5⟩ := dhas_inv h
    have hu : X.A.units + 1 < cLine := by have := G.u; omega
    have hk := ev_ok k X _ sl G C B q4 q5
    have hv : PE X (.Name x np) (tVar i) := pe_var (eq_of_beq q1) (vis_of q2) (dbg_of q3).1 (dbg_of q3).2
    cases b <;> cases p <;> first | exact absurd q0 Bool.false_ne_true | skip
    · exact PT.imp (pt_cmp (pc_dnotin hu hk hv) rfl) fun σ H Q q => LE.dhas (LT.val q)
    · exact PT.imp (pt_cmp (pc_din hu hk hv) rfl) fun σ H Q q => LE.dhas (LT.val q)
  | .dget i k, X, e, sl, G, C, B, hv, h => PT.imp (pt_val (ev_ok (.dget i k) X e sl G C B hv h) (val_of rfl h X.env)) fun σ H Q q => LT.val q
  | .dget2 i k d, X, e, sl, G, C, B, hv, h => PT.imp (pt_val (ev_ok (.dget2 i k d) X e sl G C B hv h) (val_of rfl h X.env)) fun σ H Q q => LT.val q
  | .lit d, X, e, sl, G, C, B, hv, h => PT.imp (pt_val (ev_ok (.lit d) X e sl G C B hv h) (val_of rfl h X.env)) fun σ H Q q => LT.val q
  | .loc i, X, e, sl, G, C, B, hv, h => PT.imp (pt_val (ev_ok (.loc i) X e sl G C B hv h) (val_of rfl h X.env)) fun σ H Q q => LT.val q
  | .glo x d, X, e, sl, G, C, B, hv, h => PT.imp (pt_val (ev_ok (.glo x d) X e sl G C B hv h) (val_of rfl h X.env)) fun σ H Q q => LT.val q
  | .bin o a b, X, e, sl, G, C, B, hv, h => PT.imp (pt_val (ev_ok (.bin o a b) X e sl G C B hv h) (val_of rfl h X.env)) fun σ H Q q => LT.val q
  | .neg a, X, e, sl, G, C, B, hv, h => PT.imp (pt_val (ev_ok (.neg a) X e sl G C B hv h) (val_of rfl h X.env)) fun σ H Q q => LT.val q
  | .tup a, X, e, sl, G, C, B, hv, h => PT.imp (pt_val (ev_ok (.tup a) X e sl G C B hv h) (val_of rfl h X.env)) fun σ H Q q => LT.val q
  | .lst a, X, e, sl, G, C, B, hv, h => PT.imp (pt_val (ev_ok (.lst a) X e sl G C B hv h) (val_of rfl h X.env)) fun σ H Q q => LT.val q
  | .star a, X, e, sl, G, C, B, hv, h => PT.imp (pt_val (ev_ok (.star a) X e sl G C B hv h) (val_of rfl h X.env)) fun σ H Q q => LT.val q
  | .lc a b c d, X, e, sl, G, C, B, hv, h => PT.imp (pt_val (ev_ok (.lc a b c d) X e sl G C B hv h) (val_of rfl h X.env)) fun σ H Q q => LT.val q
  | .rg1 a, X, e, sl, G, C, B, hv, h => PT.imp (pt_val (ev_ok (.rg1 a) X e sl G C B hv h) (val_of rfl h X.env)) fun σ H Q q => LT.val q
  | .rg2 a b, X, e, sl, G, C, B, hv, h => PT.imp (pt_val (ev_ok (.rg2 a b) X e sl G C B hv h) (val_of rfl h X.env)) fun σ H Q q => LT.val q
  | .rg3 a b c, X, e, sl, G, C, B, hv, h => PT.imp (pt_val (ev_ok (.rg3 a b c) X e sl G C B hv h) (val_of rfl h X.env)) fun σ H Q q => LT.val q
  | .enm a, X, e, sl, G, C, B, hv, h => PT.imp (pt_val (ev_ok (.enm a) X e sl G C B hv h) (val_of rfl h X.env)) fun σ H Q q => LT.val q
  | .zip a b, X, e, sl, G, C, B, hv, h => PT.imp (pt_val (ev_ok (.zip a b) X e sl G C B hv h) (val_of rfl h X.env)) fun σ H Q q => LT.val q
  | .idx a b, X, e, sl, G, C, B, hv, h => PT.imp (pt_val (ev_ok (.idx a b) X e sl G C B hv h) (val_of rfl h X.env)) fun σ H Q q => LT.val q
  | .sli a b c, X, e, sl, G, C, B, hv, h => PT.imp (pt_val (ev_ok (.sli a b c) X e sl G C B hv h) (val_of rfl h X.env)) fun σ H Q q => LT.val q
  | .nop, X, e, sl, G, C, B, hv, h => PT.imp (pt_val (ev_ok .nop X e sl G C B hv h) (val_of rfl h X.env)) fun σ H Q q => LT.val q
  | .rev a, X, e, sl, G, C, B, hv, h => PT.imp (pt_val (ev_ok (.rev a) X e sl G C B hv h) (val_of rfl h X.env)) fun σ H Q q => LT.val q
  | .bi f a, X, e, sl, G, C, B, hv, h => PT.imp (pt_val (ev_ok (.bi f a) X e sl G C B hv h) (val_of rfl h X.env)) fun σ H Q q => LT.val q
  | .met m a b, X, e, sl, G, C, B, hv, h => PT.imp (pt_val (ev_ok (.met m a b) X e sl G C B hv h) (val_of rfl h X.env)) fun σ H Q q => LT.val q
  | .call a b c, X, e, sl, G, C, B, hv, h => PT.imp (pt_val (ev_ok (.call a b c) X e sl G C B hv h) (val_of rfl h X.env)) fun σ H Q q => LT.val q
  | .sget k i, X, e, sl, G, C, B, hv, h => PT.imp (pt_val (ev_ok (.sget k i) X e sl G C B hv h) (val_of rfl h X.env)) fun σ H Q q => LT.val q
  | .slen i, X, e, sl, G, C, B, hv, h => PT.imp (pt_val (ev_ok (.slen i) X e sl G C B hv h) (val_of rfl h X.env)) fun σ H Q q => LT.val q
  | .newk, X, e, sl, G, C, B, hv, h => PT.imp (pt_val (ev_ok .newk X e sl G C B hv h) (val_of rfl h X.env)) fun σ H Q q => LT.val q
  | .newt, X, e, sl, G, C, B, hv, h => PT.imp (pt_val (ev_ok .newt X e sl G C B hv h) (val_of rfl h X.env)) fun σ H Q q => LT.val q
termination_by c X e => (sizeOf c, 1)
theorem evA_ok : ∀ (cs : List Pm.CE) (X : Cx) (es : List Expr) (sl : List SV), Good X j → CallsOk X j (callss cs) → GlobsOk X (globss cs) → chkA X.env.scope X.N cs es = true → PA X es (LA X.K g (evs cs sl) sl)
  | [], X, [], sl, G, C, B, h => PA.imp pa_nil fun σ H Q q => LA.nil q
  | [], X, _ :: _, sl, G, C, B, h => absurd h Bool.false_ne_true
  | _ :: _, X, [], sl, G, C, B, h => absurd h Bool.false_ne_true
  | c :: cs, X, e :: es, sl, G, C, B, h => by
    have h : (vl c && chkE X.env.scope X.N c e && chkA X.env.scope X.N cs es) = true := h
    simp only [Bool.and_eq_true] at h
    exact PA.imp (pa_cons (ev_ok c X e sl G C.app.1 B.app.1 h.1.1 h.1.2) (evA_ok cs X es sl G C.app.2 B.app.2 h.2) (star_cons (chk_star h.1.2))) fun σ H Q q => LA.cons q fun _ => rfl
termination_by cs X es => (sizeOf cs, 0)
theorem evC_ok : ∀ (cs : List Pm.CE) (X : Cx) (es : List Expr) (sl : List SV), Good X j → CallsOk X j (callss cs) → GlobsOk X (globss cs) → chkA X.env.scope X.N cs es = true → es.length ≤ 1 → PTs X es (LT X.K g (fun ss => toC (evs cs sl ss)) sl)
  | [], X, [], sl, G, C, B, h, _ => PTs.imp pts_nil fun σ H Q q => by
    obtain ⟨F, ss, r, ss', e, rp, k⟩ := q
    have e : some (true, ss) = some (r, ss') := e
    cases e
    exact k H F rp.gr rp
  | [], X, _ :: _, sl, G, C, B, h, _ => absurd h Bool.false_ne_true
  | _ :: _, X, [], sl, G, C, B, h, _ => absurd h Bool.false_ne_true
  | c :: cs, X, [e], sl, G, C, B, h, _ => by
    have h : (vl c && chkE X.env.scope X.N c e && chkA X.env.scope X.N cs []) = true := h
    simp only [Bool.and_eq_true] at h
    obtain rfl : cs = [] := by cases cs <;> first | rfl | exact absurd h.2 Bool.false_ne_true
    refine PTs.imp (pts_one (evT_ok c X e sl G C.app.1 B.app.1 h.1.1 h.1.2)) fun σ H Q q => ?_
    obtain ⟨F, ss, r, ss', e, rp, k⟩ := q
    obtain ⟨rs, e1, e2⟩ := O.f_of e
    obtain ⟨⟨r1, s1⟩, e3, e4⟩ := bind_of e1
    cases e4
    have e2 : asB r1 = some r := e2
    exact ⟨F, ss, r, _, by show (ev c sl ss).f asB = _; rw [e3]; show (asB r1).map _ = _; rw [e2]; rfl, rp, k⟩
  | _ :: _, X, _ :: _ :: _, sl, G, C, B, h, hl => absurd hl (by simp)
termination_by cs X es => (sizeOf cs, 0)
theorem evX_ok : ∀ (cs : List Pm.CE) (X : Cx) (es : List Expr) (sl : List SV), Good X j → CallsOk X j (callss cs) → GlobsOk X (globss cs) → chkX X.env.scope X.N cs es = true → PA X es (LX X.K g (fun ss => (evs cs sl ss).f dispR) sl)
  | [], X, [], sl, G, C, B, h => PA.imp pa_nil fun σ H Q q => LX.nil q
  | [], X, _ :: _, sl, G, C, B, h => absurd h Bool.false_ne_true
  | _ :: _, X, [], sl, G, C, B, h => absurd h Bool.false_ne_true
  | c :: cs, X, e :: es, sl, G, C, B, h => by
    obtain ⟨h1, h2⟩ := chkX_inv h
    rcases h1 with ⟨c', e', pos, ec, rfl, h3, h4⟩ | ⟨h3, h4⟩ | ⟨a, x, q, e', pos, ec, rfl, h5, h6, h7⟩ | ⟨a, b, x, q, e', f', pos, ec, rfl, h5, h6, h7, h8, h9⟩
    · have hc : sizeOf c' < sizeOf c := by rw [ec]; simp
      have C1 : CallsOk X j (calls c') := by have := C.app.1; rw [ec] at this; exact this
      have B1 : GlobsOk X (globs c') := by have := B.app.1; rw [ec] at this; exact this
      exact PA.imp (StX.pa_star (ev_ok c' X e' sl G C1 B1 h3 h4) (evX_ok cs X es sl G C.app.2 B.app.2 h2)) fun σ H Q q => LX.star q fun _ => by rw [ec]; rfl
    · exact PA.imp (pa_cons (ev_ok c X e sl G C.app.1 B.app.1 h3 h4) (evX_ok cs X es sl G C.app.2 B.app.2 h2) (star_cons (chk_star h4))) fun σ H Q q => LX.cons q fun _ => rfl
    · have hc : sizeOf a < sizeOf c := by rw [ec]; simp; omega
      have C1 : CallsOk X j (calls a) := by have := C.app.1; rw [ec] at this; exact this
      have B1 : GlobsOk X (globs a) := by have := B.app.1; rw [ec] at this; exact this
      have h5 : (x == "range" && gloB X.env.scope "range") = true := h5
      rw [Bool.and_eq_true] at h5
      obtain rfl : x = "range" := eq_of_beq h5.1
      exact PA.imp (pa_starRg G.calm (prg_1 (gl_of h5.2) (G.blt "range" (by decide +kernel)) (ev_ok a X e' sl G C1 B1 h6 h7) (star_cons (chk_star h7))) (evX_ok cs X es sl G C.app.2 B.app.2 h2)) fun σ H Q q => LX.starRg1 q fun _ => by rw [ec]; rfl
    · have hc1 : sizeOf a < sizeOf c := by rw [ec]; simp; omega
      have hc2 : sizeOf b < sizeOf c := by rw [ec]; simp; omega
      have C1 : CallsOk X j (calls a ++ calls b) := by have := C.app.1; rw [ec] at this; exact this
      have B1 : GlobsOk X (globs a ++ globs b) := by have := B.app.1; rw [ec] at this; exact this
      have h5 : (x == "range" && gloB X.env.scope "range") = true := h5
      rw [Bool.and_eq_true] at h5
      obtain rfl : x = "range" := eq_of_beq h5.1
      exact PA.imp (pa_starRg G.calm (prg_2 (gl_of h5.2) (G.blt "range" (by decide +kernel)) (ev_ok a X e' sl G C1.app.1 B1.app.1 h6 h7) (ev_ok b X f' sl G C1.app.2 B1.app.2 h8 h9) (star_cons (chk_star h7)) (star_cons (chk_star h9)) (by rw [star_cons (chk_star h9)]; rfl)) (evX_ok cs X es sl G C.app.2 B.app.2 h2)) fun σ H Q q => LX.starRg2 q fun _ => by rw [ec]; rfl
termination_by cs X es => (sizeOf cs, 0)
theorem evR_ok : ∀ (b : Bool) (cs : List Pm.CE) (X : Cx) (f : Expr) (args : List Expr) (kws : List Keyword) (pos : Pos) (sl : List SV), Good X j → CallsOk X j (callss cs) → GlobsOk X (globss cs) → chkE X.env.scope X.N (if b then .tup cs else .lst cs) (.Call f args kws pos) = true →
    PE X (.Call f args kws pos) (LE X.K g (ev (if b then .tup cs else .lst cs) sl) sl)
  | b, cs, X, f, args, kws, pos, sl, G, C, B, h => by
    obtain ⟨x, np, e, rfl, rfl, rfl, h1, h2, h3⟩ := rX_inv b h
    have hev : ev (if b = true then Pm.CE.tup cs else Pm.CE.lst cs) sl = fun ss => (toX (evs cs sl ss)).bind fun p => some (mkR b p.1, p.2) := by cases b <;> rfl
    rw [hev]
    have hb : b = true ∨ b = false := by cases b <;> simp
    rcases rR_inv h3 with ⟨a, y, q, e', rfl, rfl, h4, h5, h6⟩ | ⟨a, c, y, q, e', f', rfl, rfl, h4, h5, h6, h7, h8⟩
    · have C1 : CallsOk X j (calls a) := C.app.1
      have B1 : GlobsOk X (globs a) := B.app.1
      have h4 : (y == "range" && gloB X.env.scope "range") = true := h4
      rw [Bool.and_eq_true] at h4
      obtain rfl : y = "range" := eq_of_beq h4.1
      have pr := prg_1 (p := q.1) (pos := q.2) (gl_of h4.2) (G.blt "range" (by decide +kernel)) (ev_ok a X e' sl G C1 B1 h5 h6) (star_cons (chk_star h6))
      rcases hb with rfl | rfl
      · obtain rfl : x = "tuple" := h1
        exact PE.imp (pe_tupRg G.calm (gl_of h2) (G.blt "tuple" (by decide +kernel)) pr rfl) fun σ H Q q => LE.rgX true q
      · obtain rfl : x = "list" := h1
        exact PE.imp (pe_listRg G.calm (gl_of h2) (G.blt "list" (by decide +kernel)) pr rfl) fun σ H Q q => LE.rgX false q
    · have C1 : CallsOk X j (calls a ++ calls c) := C.app.1
      have B1 : GlobsOk X (globs a ++ globs c) := B.app.1
      have h4 : (y == "range" && gloB X.env.scope "range") = true := h4
      rw [Bool.and_eq_true] at h4
      obtain rfl : y = "range" := eq_of_beq h4.1
      have pr := prg_2 (p := q.1) (pos := q.2) (gl_of h4.2) (G.blt "range" (by decide +kernel)) (ev_ok a X e' sl G C1.app.1 B1.app.1 h5 h6) (ev_ok c X f' sl G C1.app.2 B1.app.2 h7 h8) (star_cons (chk_star h6)) (star_cons (chk_star h8)) (by rw [star_cons (chk_star h8)]; rfl)
      rcases hb with rfl | rfl
      · obtain rfl : x = "tuple" := h1
        exact PE.imp (pe_tupRg G.calm (gl_of h2) (G.blt "tuple" (by decide +kernel)) pr rfl) fun σ H Q q => LE.rgX2 true q
      · obtain rfl : x = "list" := h1
        exact PE.imp (pe_listRg G.calm (gl_of h2) (G.blt "list" (by decide +kernel)) pr rfl) fun σ H Q q => LE.rgX2 false q
termination_by b cs X => (sizeOf cs, 0)
theorem evI_ok : ∀ (nb : Bool) (c : Pm.CE) (X : Cx) (t e : Expr) (sl : List SV), Good X j → CallsOk X j (calls c) → GlobsOk X (globs c) → (nb = true → noBo c = true) → (!enB c || tupB t) = true → chkE X.env.scope X.N c e = true →
    PI X t e (LI X.K g nb (fun ss => toI (ev c sl ss)) sl)
  | nb, c, X, t, e, sl, G, C, B, hn, ht, h => by
    by_cases hv : vl c = true
    · exact pi_seq (ev_ok c X e sl G C B hv h) nb fun z ss r s e => not_bo (hn z) e
    · rcases it_inv hv h with ⟨a, y, q, e', rfl, rfl, h4, h5, h6⟩ | ⟨a, b, y, q, e', f', rfl, rfl, h4, h5, h6, h7, h8⟩ | ⟨a, q, e', rfl, rfl, h4, h5, h6⟩
      · have h4 : (y == "range" && gloB X.env.scope "range") = true := h4
        rw [Bool.and_eq_true] at h4
        obtain rfl : y = "range" := eq_of_beq h4.1
        exact pi_rg1 nb (gl_of h4.2) (G.blt "range" (by decide +kernel)) (ev_ok a X e' sl G C B h5 h6) (chk_star h6)
      · have h4 : (y == "range" && gloB X.env.scope "range") = true := h4
        rw [Bool.and_eq_true] at h4
        obtain rfl : y = "range" := eq_of_beq h4.1
        exact pi_rg2 nb (gl_of h4.2) (G.blt "range" (by decide +kernel)) (ev_ok a X e' sl G C.app.1 B.app.1 h5 h6) (ev_ok b X f' sl G C.app.2 B.app.2 h7 h8) (chk_star h6) (chk_star h8)
      · cases t <;> first | exact absurd ht Bool.false_ne_true | skip
        exact pi_en nb (gl_of h4) (G.blt "enumerate" (by decide +kernel)) (ev_ok a X e' sl G C B h5 h6) (chk_star h6) fun z ss r s e => not_bo (c := a) (hn z) e
termination_by nb c X => (sizeOf c, 1)
end
end Pm
namespace Pm
open PySem PySem.Spec PyProof.Rows L2
/-- locked lists stay as they are -/
def Lk (sl sl' : List SV) (σ σ' : L2.St) (H H' : Hp) : Prop := ∀ (i : Nat) (xs : List D), sl'[i]? = some (.lock xs) → sl[i]? = some (.lock xs) ∧ σ'[i]? = σ[i]? ∧ ∀ a, σ[i]? = some (some (.ref a)) → H' a = H a
theorem Lk.refl {sl : List SV} {σ : L2.St} {H : Hp} : Lk sl sl σ σ H H := fun _ _ h => ⟨h, rfl, fun _ _ => rfl⟩
theorem Lk.trans {s1 s2 s3 : List SV} {t1 t2 t3 : L2.St} {H1 H2 H3 : Hp} (a : Lk s1 s2 t1 t2 H1 H2) (b : Lk s2 s3 t2 t3 H2 H3) : Lk s1 s3 t1 t3 H1 H3 := fun i xs h =>
  let ⟨h1, h2, h3⟩ := b i xs h
  let ⟨k1, k2, k3⟩ := a i xs h1
  ⟨k1, h2.trans k2, fun c e => (h3 c (k2.trans e)).trans (k3 c e)⟩
/-- a slot that is no lock is set -/
theorem Lk.set {sl : List SV} {σ : L2.St} {H : Hp} {i : Nat} {s : SV} {x : Option V} (hs : ∀ xs, s ≠ .lock xs) : Lk sl (sl.set i s) σ (σ.set i x) H H := fun j xs h => by
  by_cases hj : i = j
  · subst hj
    by_cases hi : i < sl.length
    · rw [List.getElem?_set_self hi] at h; cases h; exact absurd rfl (hs _)
    · rw [List.getElem?_eq_none (by rw [List.length_set]; omega)] at h; cases h
  · rw [List.getElem?_set_ne hj] at h
    exact ⟨h, List.getElem?_set_ne hj, fun _ _ => rfl⟩
theorem Lk.set0 {sl : List SV} {σ : L2.St} {H H' : Hp} {i : Nat} {s : SV} (hs : ∀ xs, s ≠ .lock xs) (hH : ∀ j xs a, i ≠ j → sl[j]? = some (.lock xs) → σ[j]? = some (some (.ref a)) → H' a = H a) : Lk sl (sl.set i s) σ σ H H' := fun j xs h => by
  by_cases hj : i = j
  · subst hj
    by_cases hi : i < sl.length
    · rw [List.getElem?_set_self hi] at h; cases h; exact absurd rfl (hs _)
    · rw [List.getElem?_eq_none (by rw [List.length_set]; omega)] at h; cases h
  · rw [List.getElem?_set_ne hj] at h
    exact ⟨h, rfl, fun a e => hH j xs a hj h e⟩
theorem Ke.refl {K : PySem.W.Frag} {F : Addr → Prop} {H : Hp} : Ke K F F H H := ⟨fun _ _ h => h, fun _ _ f h => ⟨f, h⟩⟩
theorem Ke.trans {K : PySem.W.Frag} {F F1 F2 : Addr → Prop} {H H1 H2 : Hp} (a : Ke K F F1 H H1) (b : Ke K F1 F2 H1 H2) : Ke K F F2 H H2 :=
  ⟨fun c vs h => b.tup c vs (a.tup c vs h), fun c vs f h => let ⟨f1, h1⟩ := a.lst c vs f h; b.lst c vs f1 h1⟩
section
variable {K : PySem.W.Frag} {g : G} {F F' : Addr → Prop} {H H' H0 : Hp} {ss ss' : SS} {sl sl' : List SV} {σ σ' : L2.St}
/-- a slot is set -/
theorem Rp.setS {i : Nat} {s : SV} {x : V} (r : Rp K g F ss sl σ H) (rs : RS K g F H s (some x)) (hap : s.ow = true → ∀ (j : Nat) (t : SV) (b : Addr), j ≠ i → sl[j]? = some t → t.ow = true → σ[j]? = some (some (.ref b)) → x ≠ .ref b) :
    Rp K g F ss (sl.set i s) (σ.set i (some x)) H := by
  refine ⟨by rw [List.length_set, List.length_set]; exact r.len, fun j t e => ?_, fun j l t u a hne ej el os ot eσ => ?_, r.ent, r.frz, r.dom, r.fe, r.fC, r.eS, r.src⟩
  · by_cases hj : i = j
    · subst hj
      by_cases hi : i < sl.length
      · rw [List.getElem?_set_self hi] at e
        cases e
        exact ⟨some x, List.getElem?_set_self (by rw [← r.len]; exact hi), rs⟩
      · rw [List.getElem?_eq_none (by rw [List.length_set]; omega)] at e; cases e
    · rw [List.getElem?_set_ne hj] at e ⊢
      exact r.slot j t e
  · have bound : ∀ {k : Nat} {t : SV}, (sl.set i s)[k]? = some t → k < sl.length := fun {k t} e => by
      have := (List.getElem?_eq_some_iff.mp e).1
      rw [List.length_set] at this; exact this
    by_cases hj : i = j
    · subst hj
      have hi := bound ej
      rw [List.getElem?_set_self hi] at ej
      cases ej
      rw [List.getElem?_set_self (by rw [← r.len]; exact hi)] at eσ
      cases eσ
      rw [List.getElem?_set_ne hne] at el ⊢
      intro z
      exact hap os l u a (Ne.symm hne) el ot z rfl
    · rw [List.getElem?_set_ne hj] at ej eσ
      by_cases hl : i = l
      · subst hl
        have hi := bound el
        rw [List.getElem?_set_self hi] at el
        cases el
        intro z
        rw [List.getElem?_set_self (by rw [← r.len]; exact hi)] at z
        cases z
        exact hap ot j t a hne ej os eσ rfl
      · rw [List.getElem?_set_ne hl] at el ⊢
        exact r.apart j l t u a hne ej el os ot eσ
/-- where an owned thing stands -/
theorem Rp.owned {i : Nat} {s : SV} {a : Addr} (r : Rp K g F ss sl σ H) (e : sl[i]? = some s) (ho : s.ow = true) (ea : σ[i]? = some (some (.ref a))) : ∃ o, H a = some o := by
  obtain ⟨x, e1, h⟩ := r.slot i s e
  rw [ea] at e1
  cases e1
  cases s with
  | own xs => obtain ⟨b, vs, z, h1, _⟩ := h; cases z; exact ⟨_, h1⟩
  | lock xs => obtain ⟨b, vs, z, h1, _⟩ := h; cases z; exact ⟨_, h1⟩
  | dk xs => obtain ⟨b, vs, z, h1, _⟩ := h; cases z; exact ⟨_, h1⟩
  | dt xs => obtain ⟨b, vs, z, h1, _⟩ := h; cases z; exact ⟨_, h1⟩
  | _ => cases ho
/-- the result of an expression is given to a slot; p, H: the state ahead of the expression -/
theorem RR.toSlot {r : R} {s : SV} {x : V} {i : Nat} (p : Rp K g F ss sl σ H) (p' : Rp K g F' ss' sl σ H') (h : RR K g F' H H' r x) (e : toS r = some s) : Rp K g F' ss' (sl.set i s) (σ.set i (some x)) H' ∧ ∀ xs, s ≠ .lock xs := by
  have he : ∀ {a : Addr}, H a = none → g.He a = none ∧ a ≠ g.C ∧ a ≠ g.A := fun {a} z => by
    have n1 : a ≠ g.A := fun q => by rw [q, p.src.1] at z; cases z
    have n2 : a ≠ g.C := fun q => by rw [q, p.src.2.1] at z; cases z
    refine ⟨?_, n2, n1⟩
    cases q : g.He a with
    | none => rfl
    | some o => rw [p.ent a o q n1 n2] at z; cases z
  have hap : ∀ {a : Addr}, H a = none → ∀ (j : Nat) (t : SV) (b : Addr), j ≠ i → sl[j]? = some t → t.ow = true → σ[j]? = some (some (.ref b)) → V.ref a ≠ .ref b := fun {a} z j t b _ e1 e2 e3 q => by
    cases q
    obtain ⟨o, e⟩ := p.owned e1 e2 e3
    rw [z] at e; cases e
  cases r with
  | v d => cases e; exact ⟨p'.setS ⟨x, rfl, h⟩ (fun z => by cases z), fun _ z => by cases z⟩
  | fr xs =>
    cases e
    obtain ⟨a, vs, rfl, h1, h2, h3, h4⟩ := h
    obtain ⟨q1, q2, q3⟩ := he h4
    exact ⟨p'.setS ⟨a, vs, rfl, h1, h2, h3, q2, q1⟩ (fun _ => hap h4), fun _ z => by cases z⟩
  | src => cases e; obtain rfl : x = _ := h; exact ⟨p'.setS (s := .src) rfl (fun z => by cases z), fun _ z => by cases z⟩
  | nk k =>
    cases e
    obtain ⟨a, vs, rfl, h1, h2, h4⟩ := h
    obtain ⟨q1, q2, q3⟩ := he h4
    exact ⟨p'.setS ⟨a, vs, rfl, h1, h2, q3, q1⟩ (fun _ => hap h4), fun _ z => by cases z⟩
  | nt k =>
    cases e
    obtain ⟨a, vs, rfl, h1, h2, h4⟩ := h
    obtain ⟨q1, q2, q3⟩ := he h4
    exact ⟨p'.setS ⟨a, vs, rfl, h1, h2, q3, q1⟩ (fun _ => hap h4), fun _ z => by cases z⟩
  | _ => cases e
/-- a list of one's own is written -/
theorem Rp.write {i : Nat} {xs ys : List D} {a : Addr} {vs ws : List V} (r : Rp K g F ss sl σ H) (e : sl[i]? = some (.own xs)) (ea : σ[i]? = some (some (.ref a))) (hv : H a = some (.lst vs)) (hw : FDs K F H ws ys) :
    Rp K g F ss (sl.set i (.own ys)) σ (upd H a (.lst ws)) ∧ Ke K F F H (upd H a (.lst ws)) ∧ Lk sl (sl.set i (.own ys)) σ σ H (upd H a (.lst ws)) := by
  obtain ⟨x, e1, b, vs', z, h1, h2, h3, h4, h5⟩ := r.slot i _ e
  rw [ea] at e1
  cases e1
  cases z
  have nA : a ≠ g.A := fun q => by rw [q, r.src.1] at hv; cases hv
  have ke : Ke K F F H (upd H a (.lst ws)) := by
    refine ⟨fun c us s => ?_, fun c us f e => ⟨f, by rw [upd_ne (fun q : c = a => h3 (q ▸ f))]; exact e⟩⟩
    rcases s with (s | ⟨o, s⟩) | s
    · exact .inl (.inl (by rw [upd_ne (fun q : c = a => by rw [q, hv] at s; cases s)]; exact s))
    · exact .inl (.inr ⟨o, by rw [upd_ne (fun q : c = a => by rw [q, hv] at s; cases s)]; exact s⟩)
    · exact .inr s
  have hi : i < sl.length := (List.getElem?_eq_some_iff.mp e).1
  refine ⟨⟨by rw [List.length_set]; exact r.len, fun j t ej => ?_, fun j l t u c hne ej el os ot eσ => ?_, fun c o q n1 n2 => ?_, r.frz, fun c f => ?_, r.fe, r.fC, r.eS, r.src.upd (Ne.symm nA) (Ne.symm h4)⟩, ke, Lk.set0 (fun _ q => by cases q) fun j xs c hj e1 e2 => upd_ne fun z : c = a => (by subst z; exact r.apart i j _ _ _ hj e e1 rfl rfl ea e2)⟩
  · by_cases hj : i = j
    · subst hj
      rw [List.getElem?_set_self hi] at ej
      cases ej
      exact ⟨_, ea, a, ws, rfl, upd_same, hw.keep ke, h3, h4, h5⟩
    · rw [List.getElem?_set_ne hj] at ej
      obtain ⟨x, e2, h⟩ := r.slot j t ej
      have na : ∀ {b : Addr}, t.ow = true → x = some (.ref b) → b ≠ a := fun {b} ho q z => by
        subst z
        rw [q] at e2
        exact r.apart i j _ t b hj e ej rfl ho ea e2
      refine ⟨x, e2, ?_⟩
      cases t with
      | un => trivial
      | v d => obtain ⟨v, q, h⟩ := h; exact ⟨v, q, h.keep ke⟩
      | own zs => obtain ⟨b, us, q, k1, k2, k3⟩ := h; exact ⟨b, us, q, by rw [upd_ne (na rfl q)]; exact k1, k2.keep ke, k3⟩
      | lock zs => obtain ⟨b, us, q, k1, k2, k3⟩ := h; exact ⟨b, us, q, by rw [upd_ne (na rfl q)]; exact k1, k2.keep ke, k3⟩
      | dk zs => obtain ⟨b, us, q, k1, k2, k3⟩ := h; exact ⟨b, us, q, by rw [upd_ne (na rfl q)]; exact k1, Paired.mapP k2 fun _ _ z => ⟨z.1, z.2.keep ke⟩, k3⟩
      | dt zs => obtain ⟨b, us, q, k1, k2, k3⟩ := h; exact ⟨b, us, q, by rw [upd_ne (na rfl q)]; exact k1, Paired.mapP k2 fun _ _ z => ⟨z.1, z.2.keep ke⟩, k3⟩
      | src => exact h
  · have old : ∀ {k : Nat} {t : SV}, (sl.set i (.own ys))[k]? = some t → t.ow = true → ∃ t', sl[k]? = some t' ∧ t'.ow = true := fun {k t} q o => by
      by_cases hk : i = k
      · subst hk; exact ⟨_, e, rfl⟩
      · rw [List.getElem?_set_ne hk] at q; exact ⟨t, q, o⟩
    obtain ⟨t', q1, q2⟩ := old ej os
    obtain ⟨u', q3, q4⟩ := old el ot
    exact r.apart j l t' u' c hne q1 q3 q2 q4 eσ
  · rw [upd_ne (fun z : c = a => by rw [z, h5] at q; cases q)]
    exact r.ent c o q n1 n2
  · obtain ⟨us, q⟩ := r.dom c f
    exact ⟨us, by rw [upd_ne (fun z : c = a => h3 (z ▸ f))]; exact q⟩
/-- a dict of one's own is written -/
theorem Rp.writeK {i : Nat} {xs ys : List (L2.Key × D)} {a : Addr} {vs ws : List (L2.Key × V)} (r : Rp K g F ss sl σ H) (e : sl[i]? = some (.dk xs)) (ea : σ[i]? = some (some (.ref a))) (hv : H a = some (.dK vs)) (hw : KVs K F H ws ys) :
    Rp K g F ss (sl.set i (.dk ys)) σ (upd H a (.dK ws)) ∧ Ke K F F H (upd H a (.dK ws)) ∧ Lk sl (sl.set i (.dk ys)) σ σ H (upd H a (.dK ws)) := by
  obtain ⟨x, e1, b, vs', z, h1, h2, h3, h5⟩ := r.slot i _ e
  rw [ea] at e1
  cases e1
  cases z
  have nC : a ≠ g.C := fun q => by rw [q, r.src.2.1] at hv; cases hv
  have nF : ¬ F a := fun f => by obtain ⟨us, q⟩ := r.dom a f; rw [q] at hv; cases hv
  have ke : Ke K F F H (upd H a (.dK ws)) := by
    refine ⟨fun c us s => ?_, fun c us f e => ⟨f, by rw [upd_ne (fun q : c = a => nF (q ▸ f))]; exact e⟩⟩
    rcases s with (s | ⟨o, s⟩) | s
    · exact .inl (.inl (by rw [upd_ne (fun q : c = a => by rw [q, hv] at s; cases s)]; exact s))
    · exact .inl (.inr ⟨o, by rw [upd_ne (fun q : c = a => by rw [q, hv] at s; cases s)]; exact s⟩)
    · exact .inr s
  have hi : i < sl.length := (List.getElem?_eq_some_iff.mp e).1
  refine ⟨⟨by rw [List.length_set]; exact r.len, fun j t ej => ?_, fun j l t u c hne ej el os ot eσ => ?_, fun c o q n1 n2 => ?_, r.frz, fun c f => ?_, r.fe, r.fC, r.eS, r.src.upd (Ne.symm h3) (Ne.symm nC)⟩, ke, Lk.set0 (fun _ q => by cases q) fun j xs c hj e1 e2 => upd_ne fun z : c = a => (by subst z; exact r.apart i j _ _ _ hj e e1 rfl rfl ea e2)⟩
  · by_cases hj : i = j
    · subst hj
      rw [List.getElem?_set_self hi] at ej
      cases ej
      exact ⟨_, ea, a, ws, rfl, upd_same, Paired.mapP hw fun _ _ z => ⟨z.1, z.2.keep ke⟩, h3, h5⟩
    · rw [List.getElem?_set_ne hj] at ej
      obtain ⟨x, e2, h⟩ := r.slot j t ej
      have na : ∀ {b : Addr}, t.ow = true → x = some (.ref b) → b ≠ a := fun {b} ho q z => by
        subst z
        rw [q] at e2
        exact r.apart i j _ t b hj e ej rfl ho ea e2
      refine ⟨x, e2, ?_⟩
      cases t with
      | un => trivial
      | v d => obtain ⟨v, q, h⟩ := h; exact ⟨v, q, h.keep ke⟩
      | own zs => obtain ⟨b, us, q, k1, k2, k3⟩ := h; exact ⟨b, us, q, by rw [upd_ne (na rfl q)]; exact k1, k2.keep ke, k3⟩
      | lock zs => obtain ⟨b, us, q, k1, k2, k3⟩ := h; exact ⟨b, us, q, by rw [upd_ne (na rfl q)]; exact k1, k2.keep ke, k3⟩
      | dk zs => obtain ⟨b, us, q, k1, k2, k3⟩ := h; exact ⟨b, us, q, by rw [upd_ne (na rfl q)]; exact k1, Paired.mapP k2 fun _ _ z => ⟨z.1, z.2.keep ke⟩, k3⟩
      | dt zs => obtain ⟨b, us, q, k1, k2, k3⟩ := h; exact ⟨b, us, q, by rw [upd_ne (na rfl q)]; exact k1, Paired.mapP k2 fun _ _ z => ⟨z.1, z.2.keep ke⟩, k3⟩
      | src => exact h
  · have old : ∀ {k : Nat} {t : SV}, (sl.set i (.dk ys))[k]? = some t → t.ow = true → ∃ t', sl[k]? = some t' ∧ t'.ow = true := fun {k t} q o => by
      by_cases hk : i = k
      · subst hk; exact ⟨_, e, rfl⟩
      · rw [List.getElem?_set_ne hk] at q; exact ⟨t, q, o⟩
    obtain ⟨t', q1, q2⟩ := old ej os
    obtain ⟨u', q3, q4⟩ := old el ot
    exact r.apart j l t' u' c hne q1 q3 q2 q4 eσ
  · rw [upd_ne (fun z : c = a => by rw [z, h5] at q; cases q)]
    exact r.ent c o q n1 n2
  · obtain ⟨us, q⟩ := r.dom c f
    exact ⟨us, by rw [upd_ne (fun z : c = a => nF (z ▸ f))]; exact q⟩
/-- own, lock: the same to the heap -/
theorem Rp.swap {i : Nat} {s t : SV} (r : Rp K g F ss sl σ H) (e : sl[i]? = some s) (ho : s.ow = true) (hs : ∀ x, RS K g F H s x → RS K g F H t x) : Rp K g F ss (sl.set i t) σ H := by
  have hi : i < sl.length := (List.getElem?_eq_some_iff.mp e).1
  refine ⟨by rw [List.length_set]; exact r.len, fun j u ej => ?_, fun j l u w c hne ej el os ot eσ => ?_, r.ent, r.frz, r.dom, r.fe, r.fC, r.eS, r.src⟩
  · by_cases hj : i = j
    · subst hj
      rw [List.getElem?_set_self hi] at ej
      cases ej
      obtain ⟨x, e1, h⟩ := r.slot i s e
      exact ⟨x, e1, hs x h⟩
    · rw [List.getElem?_set_ne hj] at ej
      exact r.slot j u ej
  · have old : ∀ {k : Nat} {u : SV}, (sl.set i t)[k]? = some u → u.ow = true → ∃ t', sl[k]? = some t' ∧ t'.ow = true := fun {k u} q o => by
      by_cases hk : i = k
      · subst hk; exact ⟨_, e, ho⟩
      · rw [List.getElem?_set_ne hk] at q; exact ⟨u, q, o⟩
    obtain ⟨t', q1, q2⟩ := old ej os
    obtain ⟨u', q3, q4⟩ := old el ot
    exact r.apart j l t' u' c hne q1 q3 q2 q4 eσ
/-- freezing -/
theorem Rp.freeze {i : Nat} (r : Rp K g F ss sl σ H) : ∃ F', Rp K g F' ss (frzS sl i) σ H ∧ Ke K F F' H H ∧ Lk sl (frzS sl i) σ σ H H := by
  unfold frzS
  split
  · rename_i xs e
    obtain ⟨x, e1, a, vs, rfl, h1, h2, h3, h4, h5⟩ := r.slot i _ e
    have ke : Ke K F (fun b => F b ∨ b = a) H H := ⟨fun _ _ h => h, fun _ _ f h => ⟨.inl f, h⟩⟩
    have hi : i < sl.length := (List.getElem?_eq_some_iff.mp e).1
    refine ⟨fun b => F b ∨ b = a, ⟨by rw [List.length_set]; exact r.len, fun j t ej => ?_, fun j l u w c hne ej el os ot eσ => ?_, r.ent, fun b f => ?_, fun b f => ?_, fun b f => .inl (r.fe b f), fun f => ?_, r.eS, r.src⟩, ke, Lk.set0 (fun _ q => by cases q) fun _ _ _ _ _ _ => rfl⟩
    · by_cases hj : i = j
      · subst hj
        rw [List.getElem?_set_self hi] at ej
        cases ej
        exact ⟨_, e1, _, rfl, .lst (.inr rfl) h1 (h2.keep ke)⟩
      · rw [List.getElem?_set_ne hj] at ej
        obtain ⟨x, e2, h⟩ := r.slot j t ej
        refine ⟨x, e2, ?_⟩
        have na : ∀ {b : Addr}, t.ow = true → x = some (.ref b) → b ≠ a := fun {b} ho q z => by
          subst z
          rw [q] at e2
          exact r.apart i j _ t b hj e ej rfl ho e1 e2
        have nf : ∀ {b : Addr}, t.ow = true → x = some (.ref b) → ¬ F b → ¬ (F b ∨ b = a) := fun ho q n z => z.elim n (na ho q)
        cases t with
        | un => trivial
        | v d => obtain ⟨v, q, h⟩ := h; exact ⟨v, q, h.keep ke⟩
        | own zs => obtain ⟨b, us, q, k1, k2, k3, k4⟩ := h; exact ⟨b, us, q, k1, k2.keep ke, nf rfl q k3, k4⟩
        | lock zs => obtain ⟨b, us, q, k1, k2, k3, k4⟩ := h; exact ⟨b, us, q, k1, k2.keep ke, nf rfl q k3, k4⟩
        | dk zs => obtain ⟨b, us, q, k1, k2, k3⟩ := h; exact ⟨b, us, q, k1, Paired.mapP k2 fun _ _ z => ⟨z.1, z.2.keep ke⟩, k3⟩
        | dt zs => obtain ⟨b, us, q, k1, k2, k3⟩ := h; exact ⟨b, us, q, k1, Paired.mapP k2 fun _ _ z => ⟨z.1, z.2.keep ke⟩, k3⟩
        | src => exact h
    · have old : ∀ {k : Nat} {u : SV}, (sl.set i (.v (.list xs)))[k]? = some u → u.ow = true → sl[k]? = some u := fun {k u} q o => by
        by_cases hk : i = k
        · subst hk; rw [List.getElem?_set_self hi] at q; cases q; cases o
        · rw [List.getElem?_set_ne hk] at q; exact q
      exact r.apart j l u w c hne (old ej os) (old el ot) os ot eσ
    · rcases f with f | rfl
      · exact r.frz b f
      · exact .inr h5
    · rcases f with f | rfl
      · exact r.dom b f
      · exact ⟨vs, h1⟩
    · rcases f with f | f
      · exact r.fC f
      · exact h4 f.symm
  · exact ⟨F, r, .refl, .refl⟩
theorem Lk.kill {js : List Nat} : Lk sl (killS js sl) σ σ H H := by
  induction js with
  | nil => exact .refl
  | cons j js ih => exact ih.trans (Lk.set0 (fun _ q => by cases q) fun _ _ _ _ _ _ => rfl)
/-- expressions leave the locked lists alone -/
theorem Lk.gr (r : Rp K g F ss sl σ H) (gr : Gr g F F' H H') : Lk sl sl σ σ H H' := fun i xs h => ⟨h, rfl, fun a e => by
  obtain ⟨x, e1, b, vs, z, h1, h2, h3, h4, h5⟩ := r.slot i _ h
  rw [e] at e1
  cases e1
  cases z
  rw [gr.keep a _ h1 (fun q => by rw [q, r.src.1] at h1; cases h1) h4, h1]⟩
/-- from the def's entry -/
theorem Rp.entry (r : Rp K g F ss sl σ H) : Gr g g.Fe F g.He H := by
  obtain ⟨s, hs⟩ := r.eS
  exact ⟨r.ent, r.fe, r.frz, r.dom, r.fC, s, ss, hs, r.src⟩
/-! ### readings -/
variable (K g) in
/-- what a statement came to -/
def Po (D : Ends) (F : Addr → Prop) (sl : List SV) (σ : L2.St) (H : Hp) : Out → Prop
  | .nx sl' ss' => ∀ σ' H' F', Rp K g F' ss' sl' σ' H' → Ke K F F' H H' → Lk sl sl' σ σ' H H' → D.nx σ' H'
  | .rt r ss' => ∀ x H' F', Gr g g.Fe F' g.He H' → SrcOk g.A g.C ss' H' → RR K g F' g.He H' r x → D.rt x H'
variable (K g) in
def LS (m : List SV → SS → Option Out) : TS := fun D σ H => ∃ F ss sl out, m sl ss = some out ∧ Rp K g F ss sl σ H ∧ Po K g D F sl σ H out
theorem Po.trans {D : Ends} {F1 : Addr → Prop} {sl1 : List SV} {σ1 : L2.St} {H1 : Hp} {out : Out} (p : Po K g D F sl σ H out) (k : Ke K F F1 H H1) (l : Lk sl sl1 σ σ1 H H1) : Po K g D F1 sl1 σ1 H1 out := by
  cases out with
  | nx sl' ss' => exact fun σ' H' F' r k' l' => p σ' H' F' r (k.trans k') (l.trans l')
  | rt r ss' => exact p
theorem Po.gr {D : Ends} {out : Out} (p : Po K g D F sl σ H out) (r : Rp K g F ss sl σ H) (gr : Gr g F F' H H') : Po K g D F' sl σ H' out := p.trans (gr.ke r.fC) (Lk.gr r gr)
theorem Po.nx {D : Ends} (p : Po K g D F sl σ H (.nx sl' ss')) {σ' : L2.St} (r : Rp K g F' ss' sl' σ' H') (k : Ke K F F' H H') (l : Lk sl sl' σ σ' H H') : D.nx σ' H' := p σ' H' F' r k l
end
section
variable {X : Cx} {g : G} {st : Stmt} {sts : List Stmt} {t t' : TS} {m m' : List SV → SS → Option Out}
theorem PS.imp (h : PS X st t) (i : ∀ D σ H, t' D σ H → t D σ H) : PS X st t' := ⟨fun pins s σ H D I q => h.run pins s σ H D I (i D σ H q)⟩
theorem PSs.imp (h : PSs X sts t) (i : ∀ D σ H, t' D σ H → t D σ H) : PSs X sts t' := ⟨fun pins s σ H D I q => h.run pins s σ H D I (i D σ H q)⟩
variable (X g) in
/-- the reading where the slots are these -/
def LSs (m : SS → Option Out) (sl : List SV) : TS := fun D σ H => ∃ F ss out, m ss = some out ∧ Rp X.K g F ss sl σ H ∧ Po X.K g D F sl σ H out
theorem PS.ofSl (h : ∀ sl, PS X st (LSs X g (m sl) sl)) : PS X st (LS X.K g m) := ⟨fun pins s σ H D I q => by
  obtain ⟨F, ss, sl, out, e, rp, k⟩ := q
  exact (h sl).run pins s σ H D I ⟨F, ss, out, e, rp, k⟩⟩
/-- a statement, then the rest -/
theorem LS.seq {D : Ends} {σ : L2.St} {H : Hp} (h : LS X.K g (fun sl ss => match m sl ss with | some (.nx sl ss) => m' sl ss | r => r) D σ H) : tSeq (LS X.K g m) (LS X.K g m') D σ H := by
  obtain ⟨F, ss, sl, out, e, rp, k⟩ := h
  have e : (match m sl ss with | some (.nx sl ss) => m' sl ss | r => r) = some out := e
  cases e1 : m sl ss with
  | none => rw [e1] at e; cases e
  | some o =>
    rw [e1] at e
    refine ⟨F, ss, sl, o, e1, rp, ?_⟩
    cases o with
    | nx sl1 ss1 => exact fun σ' H' F' r k' l' => ⟨F', ss1, sl1, out, e, r, k.trans k' l'⟩
    | rt r ss1 =>
      have e : some (Out.rt r ss1) = some out := e
      cases e
      exact k
end
end Pm
namespace Pm
open PySem PySem.Spec PyProof.Rows L2
section
variable {K : PySem.W.Frag} {g : G} {F F' : Addr → Prop} {H H' H0 : Hp} {ss ss' : SS} {sl sl' : List SV} {σ σ' : L2.St}
theorem setS_of {i : Nat} {s : SV} (e : setS sl i s = some sl') : sl' = sl.set i s ∧ i < sl.length := by
  unfold setS at e
  split at e <;> cases e
  exact ⟨rfl, ‹_›⟩
mutual
theorem bindT_lock : ∀ (t : TGt) (d : D) (sl sl' : List SV), bindT t d sl = some sl' → ∀ j xs, sl'[j]? = some (.lock xs) → sl[j]? = some (.lock xs) ∧ j ∉ t.slots
  | .one i, d, sl, sl', e, j, xs, h => by
    obtain ⟨rfl, hi⟩ := setS_of e
    by_cases hj : i = j
    · subst hj; rw [List.getElem?_set_self hi] at h; cases h
    · rw [List.getElem?_set_ne hj] at h; exact ⟨h, by simp [TGt.slots, Ne.symm hj]⟩
  | .tup ts, d, sl, sl', e, j, xs, h => by
    cases d with
    | tuple ds => exact bindTs_lock ts ds sl sl' e j xs h
    | _ => cases e
theorem bindTs_lock : ∀ (ts : List TGt) (ds : List D) (sl sl' : List SV), bindTs ts ds sl = some sl' → ∀ j xs, sl'[j]? = some (.lock xs) → sl[j]? = some (.lock xs) ∧ j ∉ TGt.slotss ts
  | [], [], sl, sl', e, j, xs, h => by cases e; exact ⟨h, by simp [TGt.slotss]⟩
  | t :: ts, d :: ds, sl, sl', e, j, xs, h => by
    obtain ⟨sl1, e1, e2⟩ := bind_of e
    obtain ⟨h1, h2⟩ := bindTs_lock ts ds sl1 sl' e2 j xs h
    obtain ⟨h3, h4⟩ := bindT_lock t d sl sl1 e1 j xs h1
    exact ⟨h3, by simp only [TGt.slotss, List.mem_append, not_or]; exact ⟨h4, h2⟩⟩
  | [], _ :: _, sl, sl', e, j, xs, h => by cases e
  | _ :: _, [], sl, sl', e, j, xs, h => by cases e
end
theorem Lk.bind {t : TGt} {d : D} (e : bindT t d sl = some sl') (h : ∀ j, j ∉ t.slots → σ'[j]? = σ[j]? ∧ sl'[j]? = sl[j]?) : Lk sl sl' σ σ' H H := fun j xs q =>
  let ⟨h1, h2⟩ := bindT_lock t d sl sl' e j xs q
  ⟨h1, (h j h2).1, fun _ _ => rfl⟩
/-- a list of one's own, where it lies -/
theorem Rp.ownAt {i : Nat} {xs : List D} (r : Rp K g F ss sl σ H) (e : sl[i]? = some (.own xs)) : ∃ a vs, σ[i]? = some (some (.ref a)) ∧ H a = some (.lst vs) ∧ FDs K F H vs xs := by
  obtain ⟨x, e1, a, vs, rfl, h1, h2, h3⟩ := r.slot i _ e
  exact ⟨a, vs, e1, h1, h2⟩
end
section
variable {X : Cx} {g : G} {sl : List SV} {D : Ends} {σ : L2.St} {H : Hp}
/-- name = e -/
theorem LSs.set {m : SS → O R} {i : Nat} (h : LSs X g (fun ss => toSet (m ss) sl i) sl D σ H) : tAsg (LE X.K g m sl) (gName i) D σ H := by
  obtain ⟨F, ss, out, e, rp, k⟩ := h
  obtain ⟨⟨r, s1⟩, e1, e⟩ := bind_of e
  obtain ⟨s, e2, e⟩ := bind_of e
  obtain ⟨sl', e3, e4⟩ := map_of e
  cases e4
  obtain ⟨rfl, hi⟩ := setS_of e3
  refine ⟨F, ss, r, s1, e1, rp, fun x H1 F1 g1 p1 h1 => ?_⟩
  obtain ⟨q, hl⟩ := h1.toSlot (i := i) rp p1 e2
  exact k _ _ _ q (g1.ke rp.fC) ((Lk.gr rp g1).trans (.set hl))
/-- (a, b, ..) = e -/
theorem LSs.unp {m : SS → O R} {ts : List TGt} (h : LSs X g (fun ss => (toD (m ss)).bind fun p => (bindT (.tup ts) p.1 sl).map fun sl => .nx sl p.2) sl D σ H) : tAsg (LE X.K g m sl) (LG X.K g (.tup ts)) D σ H := by
  obtain ⟨F, ss, out, e, rp, k⟩ := h
  obtain ⟨⟨d, s1⟩, e1, e⟩ := bind_of e
  obtain ⟨sl', e3, e4⟩ := map_of e
  cases e4
  obtain ⟨r, e5, e6⟩ := O.f_of e1
  refine ⟨F, ss, r, s1, e5, rp, fun x H1 F1 g1 p1 h1 => ?_⟩
  have fd : FD X.K F1 H1 x d := by
    rcases h1.rd e6 with h | ⟨a, vs, xs, rfl, _⟩
    · exact h
    · cases e3
  exact ⟨F1, s1, sl, d, sl', p1, fd, e3, fun σ' r' _ hs => k σ' H1 F1 r' (g1.ke rp.fC) ((Lk.gr rp g1).trans (Lk.bind e3 hs))⟩
/-- a value kept -/
theorem RR.esc' {K : PySem.W.Frag} {F F1 : Addr → Prop} {ss ss1 : SS} {H1 : Hp} {r : R} {x : V} {d : Pm.D} (h : RR K g F1 H H1 r x) (e : Pm.esc r = some d) (g1 : Gr g F F1 H H1) (rp : Rp K g F ss sl σ H) (p1 : Rp K g F1 ss1 sl σ H1) : ∃ F2, Gr g F F2 H H1 ∧ Rp K g F2 ss1 sl σ H1 ∧ FD K F2 H1 x d := by
  obtain ⟨F2, g2, f2⟩ := h.esc e g1
  exact ⟨F2, g2, rp.step g2 p1.src, f2⟩
theorem ownL_of {i : Nat} {xs : List Pm.D} (e : ownL sl[i]? = some xs) : sl[i]? = some (.own xs) := by
  unfold ownL at e
  split at e <;> cases e
  assumption
/-- x.append(e) -/
theorem LSs.app {m : SS → O R} {i : Nat} (h : LSs X g (fun ss => (toE (m ss)).bind fun p => (ownL sl[i]?).bind fun xs => if xs.length < SL then some (.nx (sl.set i (.own (xs ++ [p.1]))) p.2) else none) sl D σ H) :
    tDrop (tBM X.K "list" rAppend (tVar i) (tCons (LE X.K g m sl) tNil)) D σ H := by
  obtain ⟨F, ss, out, e, rp, k⟩ := h
  obtain ⟨⟨d, s1⟩, e1, e⟩ := bind_of e
  obtain ⟨xs, e2, e⟩ := bind_of e
  have e2 := ownL_of e2
  have e : (if xs.length < SL then some (Out.nx (sl.set i (.own (xs ++ [d]))) s1) else none) = some out := e
  by_cases hl : xs.length < SL
  case neg => rw [if_neg hl] at e; cases e
  rw [if_pos hl] at e
  cases e
  obtain ⟨r, e5, e6⟩ := O.f_of e1
  obtain ⟨a, vs, ea, ha, _⟩ := rp.ownAt e2
  refine ⟨_, ea, .inl ⟨rfl, vs, .of ha⟩, F, ss, r, s1, e5, rp, fun x H1 F1 g1 p1 h1 => ?_⟩
  obtain ⟨F2, g2, p2, f2⟩ := h1.esc' e6 g1 rp p1
  obtain ⟨a', vs', ea', ha', hv⟩ := p2.ownAt e2
  rw [ea] at ea'
  cases ea'
  obtain ⟨w1, w2, w3⟩ := p2.write e2 ea ha' (hv.append (.one f2))
  exact ⟨a, vs', x, rfl, rfl, ha', by rw [hv.length, SL_eq]; exact hl, k.nx w1 ((g2.ke rp.fC).trans w2) ((Lk.gr rp g2).trans w3)⟩
/-- x.extend(e) -/
theorem LSs.ext {m : SS → O R} {i : Nat} (h : LSs X g (fun ss => (toD (m ss)).bind fun p => (ownL sl[i]?).bind fun xs => match p.1 with
    | .list ys => if xs.length + ys.length ≤ SL then some (.nx (sl.set i (.own (xs ++ ys))) p.2) else none
    | _ => none) sl D σ H) : tDrop (tBM X.K "list" rExtend (tVar i) (tCons (LE X.K g m sl) tNil)) D σ H := by
  obtain ⟨F, ss, out, e, rp, k⟩ := h
  obtain ⟨⟨d, s1⟩, e1, e⟩ := bind_of e
  obtain ⟨xs, e2, e⟩ := bind_of e
  have e2 := ownL_of e2
  obtain ⟨ys, rfl⟩ : ∃ ys, d = .list ys := by cases d <;> first | (cases e; done) | exact ⟨_, rfl⟩
  have e : (if xs.length + ys.length ≤ SL then some (Out.nx (sl.set i (.own (xs ++ ys))) s1) else none) = some out := e
  by_cases hl : xs.length + ys.length ≤ SL
  case neg => rw [if_neg hl] at e; cases e
  rw [if_pos hl] at e
  cases e
  obtain ⟨r, e5, e6⟩ := O.f_of e1
  obtain ⟨a, vs, ea, ha, _⟩ := rp.ownAt e2
  refine ⟨_, ea, .inl ⟨rfl, vs, .of ha⟩, F, ss, r, s1, e5, rp, fun x H1 F1 g1 p1 h1 => ?_⟩
  obtain ⟨b, us, rfl, hb, hu⟩ : ∃ b us, x = .ref b ∧ H1 b = some (.lst us) ∧ FDs X.K F1 H1 us ys := by
    rcases h1.rd e6 with h | ⟨a, vs, xs, ex, e1, e2, e3⟩
    · cases h with | lst f e r => exact ⟨_, _, rfl, e, r⟩
    · cases ex; exact ⟨_, _, e1, e2, e3⟩
  obtain ⟨a', vs', ea', ha', hv⟩ := p1.ownAt e2
  rw [ea] at ea'
  cases ea'
  obtain ⟨w1, w2, w3⟩ := p1.write e2 ea ha' (hv.append hu)
  exact ⟨a, b, vs', us, rfl, rfl, ha', hb, by rw [hv.length, hu.length, SL_eq]; exact hl, k.nx w1 ((g1.ke rp.fC).trans w2) ((Lk.gr rp g1).trans w3)⟩
/-- e alone -/
theorem LSs.exp {m : SS → O R} (h : LSs X g (fun ss => (m ss).bind fun p => some (.nx sl p.2)) sl D σ H) : tDrop (LE X.K g m sl) D σ H := by
  obtain ⟨F, ss, out, e, rp, k⟩ := h
  obtain ⟨⟨d, s1⟩, e1, e⟩ := bind_of e
  cases e
  exact ⟨F, ss, d, s1, e1, rp, fun x H1 F1 g1 p1 h1 => k.nx p1 (g1.ke rp.fC) (Lk.gr rp g1)⟩
/-- return e -/
theorem LSs.ret {m : SS → O R} (h : LSs X g (fun ss => ((m ss).f retR).bind fun p => some (.rt p.1 p.2)) sl D σ H) : tRet (LE X.K g m sl) D σ H := by
  obtain ⟨F, ss, out, e, rp, k⟩ := h
  obtain ⟨⟨r', s1⟩, e1, e⟩ := bind_of e
  cases e
  obtain ⟨r, e5, e6⟩ := O.f_of e1
  refine ⟨F, ss, r, s1, e5, rp, fun x H1 F1 g1 p1 h1 => k x H1 F1 p1.entry p1.src ?_⟩
  have h2 := h1.early rp.entry
  cases r <;> first | (cases e6; done) | skip
  · cases e6; exact h2
  · cases e6; exact h2
  · cases e6; obtain ⟨a, vs, q0, q1, q2, q3, q4, q5⟩ := h2; exact ⟨a, vs, q0, q1, q2, q5, q4⟩
  · cases e6; exact h2
theorem LSs.retn (h : LSs X g (fun ss => some (.rt (.v .none) ss)) sl D σ H) : tRetN D σ H := by
  obtain ⟨F, ss, out, e, rp, k⟩ := h
  cases e
  exact k _ H F rp.entry rp.src .non
/-- if -/
theorem LSs.ite {c : SS → O Bool} {a b : List SV → SS → Option Out} (h : LSs X g (fun ss => (c ss).bind fun p => if p.1 then a sl p.2 else b sl p.2) sl D σ H) : tIfS (LT X.K g c sl) (LS X.K g a) (LS X.K g b) D σ H := by
  obtain ⟨F, ss, out, e, rp, k⟩ := h
  obtain ⟨⟨r, s1⟩, e1, e⟩ := bind_of e
  refine ⟨F, ss, r, s1, e1, rp, fun H1 F1 g1 p1 => ?_⟩
  cases r with
  | true => exact ⟨F1, s1, sl, out, e, p1, k.gr rp g1⟩
  | false => exact ⟨F1, s1, sl, out, e, p1, k.gr rp g1⟩
theorem ixN_get {n : Nat} {k : Int} {j : Nat} (h : ixN n k = some j) : j < n := (ixN_seq h).2.1
theorem stoD_of {i : Nat} {k d : Pm.D} {sl' : List SV} (e : stoD sl i k d = some sl') : ∃ xs k' j, sl[i]? = some (.own xs) ∧ k = .int k' ∧ ixN xs.length k' = some j ∧ sl' = sl.set i (.own (xs.set j d)) := by
  unfold stoD at e
  split at e
  · obtain ⟨j, e1, rfl⟩ := map_of e
    exact ⟨_, _, j, by assumption, rfl, e1, rfl⟩
  · cases e
/-- x[k] = e: the store -/
theorem sub_go {K : PySem.W.Frag} {F : Addr → Prop} {ss : SS} {H : Hp} {i : Nat} {mk : SS → O R} {k d : Pm.D} {s : SS} {sl' : List SV} {v : V} {Q : L2.St → Hp → Prop} (ek : toD (mk ss) = some (k, s)) (e : stoD sl i k d = some sl') (rp : Rp K g F ss sl σ H) (hv : FD K F H v d)
    (q : ∀ H' F', Rp K g F' s sl' σ H' → Ke K F F' H H' → Lk sl sl' σ σ H H' → Q σ H') : gSub (tVar i) (LE K g mk sl) rSetL v σ H Q := by
  obtain ⟨xs, k', j, e1, rfl, e2, rfl⟩ := stoD_of e
  obtain ⟨a, vs, ea, ha, _⟩ := rp.ownAt e1
  obtain ⟨r, e5, e6⟩ := O.f_of ek
  refine ⟨_, ea, F, ss, r, s, e5, rp, fun x H1 F1 g1 p1 h1 => ?_⟩
  obtain rfl := (h1.rd e6).int
  obtain ⟨a', vs', ea', ha', hvs⟩ := p1.ownAt e1
  rw [ea] at ea'
  cases ea'
  obtain ⟨w1, w2, w3⟩ := p1.write e1 ea ha' (hvs.set (hv.keep (g1.ke rp.fC)) j)
  exact ⟨a, vs', k', j, rfl, rfl, ha', by rw [hvs.length]; exact e2, q _ _ w1 ((g1.ke rp.fC).trans w2) ((Lk.gr rp g1).trans w3)⟩
theorem LSs.sto {m mk : SS → O R} {i : Nat} (h : LSs X g (fun ss => (toE (m ss)).bind fun p => (toD (mk p.2)).bind fun q => (stoD sl i q.1 p.1).map fun sl => .nx sl q.2) sl D σ H) :
    tAsg (LE X.K g m sl) (gSub (tVar i) (LE X.K g mk sl) rSetL) D σ H := by
  obtain ⟨F, ss, out, e, rp, k⟩ := h
  obtain ⟨⟨d, s1⟩, e1, e⟩ := bind_of e
  obtain ⟨⟨kd, s2⟩, e2, e⟩ := bind_of e
  obtain ⟨sl', e3, e4⟩ := map_of e
  cases e4
  obtain ⟨r, e5, e6⟩ := O.f_of e1
  refine ⟨F, ss, r, s1, e5, rp, fun x H1 F1 g1 p1 h1 => ?_⟩
  obtain ⟨F2, g2, p2, f2⟩ := h1.esc' e6 g1 rp p1
  exact sub_go e2 e3 p2 f2 fun H' F' r k1 l1 => k.nx r ((g2.ke rp.fC).trans k1) ((Lk.gr rp g2).trans l1)
/-- d[k] = e -/
theorem LSs.dput {m mk : SS → O R} {i : Nat} (h : LSs X g (fun ss => (toE (m ss)).bind fun p => (toD (mk p.2)).bind fun q => (dputD sl i q.1 p.1).map fun sl => .nx sl q.2) sl D σ H) :
    sDPut (tVar i) (LE X.K g mk sl) (LE X.K g m sl) D σ H := by
  obtain ⟨F, ss, out, e, rp, k⟩ := h
  obtain ⟨⟨d, s1⟩, e1, e⟩ := bind_of e
  obtain ⟨⟨kd, s2⟩, e2, e⟩ := bind_of e
  obtain ⟨sl', e3, e4⟩ := map_of e
  cases e4
  obtain ⟨kvs, e7, e3⟩ := bind_of e3
  obtain ⟨key, e8, e3⟩ := bind_of e3
  have hl : kvs.length < SL := by
    split at e3
    · assumption
    · cases e3
  rw [if_pos hl] at e3
  cases e3
  obtain ⟨r, e5, e6⟩ := O.f_of e1
  obtain ⟨rk, e9, e10⟩ := O.f_of e2
  refine ⟨F, ss, r, s1, e5, rp, fun x H1 F1 g1 p1 h1 => ?_⟩
  obtain ⟨F2, g2, p2, f2⟩ := h1.esc' e6 g1 rp p1
  obtain ⟨a, _, ea, _, _⟩ := rp.dkSlot e7
  refine ⟨_, ea, F2, s1, rk, _, e9, p2, fun y H3 F3 g3 p3 h3 => ?_⟩
  obtain ⟨a', vvs, ea', ha, hk⟩ := p3.dkSlot e7
  rw [ea] at ea'
  cases ea'
  obtain rfl := keyOf_rd (h3.rd e10) e8
  obtain ⟨w1, w2, w3⟩ := p3.writeK (dkAt_of e7) ea ha (kvs_put key (f2.keep (g3.ke p2.fC)) hk)
  refine ⟨a, _, rfl, DPut.k ha (by rw [Paired.length hk, SL_eq]; exact hl), k.nx w1 (((g2.ke rp.fC).trans (g3.ke p2.fC)).trans w2) (((Lk.gr rp g2).trans (Lk.gr p2 g3)).trans w3)⟩
/-- x[k], y[l] = e, f -/
theorem LSs.sto2 {m1 m2 : SS → O R} {mk ml : List SV → SS → O R} {i j : Nat} (h : LSs X g (fun ss => (toE (m1 ss)).bind fun p => (toE (m2 p.2)).bind fun q => (toD (mk sl q.2)).bind fun t => (stoD sl i t.1 p.1).bind fun sl =>
      (toD (ml sl t.2)).bind fun u => (stoD sl j u.1 q.1).map fun sl => .nx sl u.2) sl D σ H) :
    tAsg (tTup (tCons (LE X.K g m1 sl) (tCons (LE X.K g m2 sl) tNil))) (gTup X.K 2 (gCons (gSub (tVar i) (LE X.K g (mk sl) sl) rSetL) (gCons (fun v σ H Q => ∃ sl', gSub (tVar j) (LE X.K g (ml sl') sl') rSetL v σ H Q) gNil))) D σ H := by
  obtain ⟨F, ss, out, e, rp, k⟩ := h
  obtain ⟨⟨d1, s1⟩, e1, e⟩ := bind_of e
  obtain ⟨⟨d2, s2⟩, e2, e⟩ := bind_of e
  obtain ⟨⟨k1, s3⟩, e3, e⟩ := bind_of e
  obtain ⟨sl1, e4, e⟩ := bind_of e
  obtain ⟨⟨k2, s4⟩, e5, e⟩ := bind_of e
  obtain ⟨sl2, e6, e7⟩ := map_of e
  cases e7
  obtain ⟨r1, a1, b1⟩ := O.f_of e1
  obtain ⟨r2, a2, b2⟩ := O.f_of e2
  refine ⟨F, ss, r1, s1, a1, rp, fun x H1 F1 g1 p1 h1 => ?_⟩
  obtain ⟨F2, g2, p2, f2⟩ := h1.esc' b1 g1 rp p1
  refine ⟨F2, s1, r2, s2, a2, p2, fun y H2 F3 g3 p3 h3 => ?_⟩
  obtain ⟨F4, g4, p4, f4⟩ := h3.esc' b2 g3 p2 p3
  refine ⟨by show 2 ≤ sizeLine; decide, fun p hp => ?_⟩
  have g5 := p4.grUpd (o := .tup [x, y]) hp
  have p5 := p4.step g5 (p4.src.upd (p4.srcNe hp).1 (p4.srcNe hp).2)
  have k45 : Ke X.K F4 F4 H2 _ := g5.ke p4.fC
  refine ⟨p, [x, y], rfl, .of upd_same, rfl, _, _, rfl, ?_⟩
  refine sub_go e3 e4 p5 ((f2.keep (g4.ke p2.fC)).keep k45) fun H6 F6 p6 k6 l6 => ?_
  refine ⟨_, _, rfl, sl1, ?_⟩
  refine sub_go e5 e6 p6 ((f4.keep k45).keep k6) fun H7 F7 p7 k7 l7 => ⟨rfl, ?_⟩
  exact k.nx p7 (((g2.ke rp.fC).trans (g4.ke p2.fC)).trans (k45.trans (k6.trans k7))) (((Lk.gr rp g2).trans (Lk.gr p2 g4)).trans ((Lk.gr p4 g5).trans (l6.trans l7)))
end
end Pm
namespace Pm
open PySem PySem.Spec PyProof.Rows L2
section
variable {X : Cx} {g : G} {sl : List SV} {D : Ends} {σ : L2.St} {H : Hp}
theorem toSs_cons {r : R} {rs : List R} {ss : List SV} (e : toSs (r :: rs) = some ss) : ∃ s t, toS r = some s ∧ toSs rs = some t ∧ ss = s :: t := by
  obtain ⟨s, e1, e⟩ := bind_of e
  obtain ⟨t, e2, e3⟩ := map_of e
  exact ⟨s, t, e1, e2, e3.symm⟩
theorem setAll_cons {j : Nat} {js : List Nat} {s : SV} {r : List SV} {sl sl' : List SV} (e : setAll (j :: js) (s :: r) sl = some sl') : setAll js r (sl.set j s) = some sl' := by
  obtain ⟨sl1, e1, e2⟩ := bind_of e
  obtain ⟨rfl, _⟩ := setS_of e1
  exact e2
theorem evs_cons {c : Pm.CE} {cs : List Pm.CE} {ss s : SS} {rs : List R} (e : evs (c :: cs) sl ss = some (rs, s)) : ∃ r t s1, ev c sl ss = some (r, s1) ∧ evs cs sl s1 = some (t, s) ∧ rs = r :: t := by
  obtain ⟨⟨r, s1⟩, e1, e⟩ := bind_of e
  obtain ⟨⟨t, s2⟩, e2, e⟩ := bind_of e
  cases e
  exact ⟨r, t, s1, e1, e2, rfl⟩
/-- a, b = e, f -/
theorem LSs.par2 {i j : Nat} {c1 c2 : Pm.CE} (h : LSs X g (fun ss => ((evs [c1, c2] sl ss).f toSs).bind fun p => (setAll [i, j] p.1 sl).map fun sl => .nx sl p.2) sl D σ H) :
    tPar i j (tCons (LE X.K g (ev c1 sl) sl) (tCons (LE X.K g (ev c2 sl) sl) tNil)) D σ H := by
  obtain ⟨F, ss, out, e, rp, k⟩ := h
  obtain ⟨⟨sv, s2⟩, e0, e⟩ := bind_of e
  obtain ⟨sl', e3, e4⟩ := map_of e
  cases e4
  obtain ⟨rs, e5, e6⟩ := O.f_of e0
  obtain ⟨r1, rs1, s1, a1, e51, rfl⟩ := evs_cons e5
  obtain ⟨r2, rs2, s2', a2, e52, rfl⟩ := evs_cons e51
  cases e52
  obtain ⟨v1, sv1, b1, e61, rfl⟩ := toSs_cons e6
  obtain ⟨v2, sv2, b2, e62, rfl⟩ := toSs_cons e61
  cases e62
  have e3 := setAll_cons (setAll_cons e3)
  cases e3
  refine ⟨F, ss, r1, s1, a1, rp, fun x H1 F1 g1 p1 h1 => ⟨F1, s1, r2, _, a2, p1, fun y H2 F2 g2 p2 h2 => ⟨x, y, rfl, ?_⟩⟩⟩
  obtain ⟨q1, l1⟩ := h1.toSlot (i := i) rp p1 b1
  have q1' := q1.step g2 p2.src
  obtain ⟨q2, l2⟩ := h2.toSlot (i := j) q1 q1' b2
  exact k.nx q2 ((g1.ke rp.fC).trans (g2.ke p1.fC)) (((Lk.gr rp g1).trans (Lk.gr p1 g2)).trans ((Lk.set l1).trans (Lk.set l2)))
theorem LSs.par3 {i j l : Nat} {c1 c2 c3 : Pm.CE} (h : LSs X g (fun ss => ((evs [c1, c2, c3] sl ss).f toSs).bind fun p => (setAll [i, j, l] p.1 sl).map fun sl => .nx sl p.2) sl D σ H) :
    tPar3 i j l (tCons (LE X.K g (ev c1 sl) sl) (tCons (LE X.K g (ev c2 sl) sl) (tCons (LE X.K g (ev c3 sl) sl) tNil))) D σ H := by
  obtain ⟨F, ss, out, e, rp, k⟩ := h
  obtain ⟨⟨sv, s2⟩, e0, e⟩ := bind_of e
  obtain ⟨sl', e3, e4⟩ := map_of e
  cases e4
  obtain ⟨rs, e5, e6⟩ := O.f_of e0
  obtain ⟨r1, rs1, s1, a1, e51, rfl⟩ := evs_cons e5
  obtain ⟨r2, rs2, s2', a2, e52, rfl⟩ := evs_cons e51
  obtain ⟨r3, rs3, s3', a3, e53, rfl⟩ := evs_cons e52
  cases e53
  obtain ⟨v1, sv1, b1, e61, rfl⟩ := toSs_cons e6
  obtain ⟨v2, sv2, b2, e62, rfl⟩ := toSs_cons e61
  obtain ⟨v3, sv3, b3, e63, rfl⟩ := toSs_cons e62
  cases e63
  have e3 := setAll_cons (setAll_cons (setAll_cons e3))
  cases e3
  refine ⟨F, ss, r1, s1, a1, rp, fun x H1 F1 g1 p1 h1 => ⟨F1, s1, r2, _, a2, p1, fun y H2 F2 g2 p2 h2 => ⟨F2, _, r3, _, a3, p2, fun z H3 F3 g3 p3 h3 => ⟨x, y, z, rfl, ?_⟩⟩⟩⟩
  obtain ⟨q1, l1⟩ := h1.toSlot (i := i) rp p1 b1
  have q1' := q1.step g2 p2.src
  obtain ⟨q2, l2⟩ := h2.toSlot (i := j) q1 q1' b2
  have q2' := q2.step g3 p3.src
  obtain ⟨q3, l3⟩ := h3.toSlot (i := l) q2 q2' b3
  exact k.nx q3 (((g1.ke rp.fC).trans (g2.ke p1.fC)).trans (g3.ke p2.fC)) ((((Lk.gr rp g1).trans (Lk.gr p1 g2)).trans (Lk.gr p2 g3)).trans (((Lk.set l1).trans (Lk.set l2)).trans (Lk.set l3)))
/-- the same by a tuple: some name is a cell -/
theorem LSs.par2c {i j : Nat} {c1 c2 : Pm.CE} (h : LSs X g (fun ss => ((evs [c1, c2] sl ss).f toSs).bind fun p => (setAll [i, j] p.1 sl).map fun sl => .nx sl p.2) sl D σ H) :
    tAsg (tTup (tCons (LE X.K g (ev c1 sl) sl) (tCons (LE X.K g (ev c2 sl) sl) tNil))) (gTup X.K 2 (gCons (gName i) (gCons (gName j) gNil))) D σ H := by
  obtain ⟨F, ss, out, e, rp, k⟩ := h
  obtain ⟨⟨sv, s2⟩, e0, e⟩ := bind_of e
  obtain ⟨sl', e3, e4⟩ := map_of e
  cases e4
  obtain ⟨rs, e5, e6⟩ := O.f_of e0
  obtain ⟨r1, rs1, s1, a1, e51, rfl⟩ := evs_cons e5
  obtain ⟨r2, rs2, s2', a2, e52, rfl⟩ := evs_cons e51
  cases e52
  obtain ⟨v1, sv1, b1, e61, rfl⟩ := toSs_cons e6
  obtain ⟨v2, sv2, b2, e62, rfl⟩ := toSs_cons e61
  cases e62
  have e3 := setAll_cons (setAll_cons e3)
  cases e3
  refine ⟨F, ss, r1, s1, a1, rp, fun x H1 F1 g1 p1 h1 => ⟨F1, s1, r2, _, a2, p1, fun y H2 F2 g2 p2 h2 => ⟨by show 2 ≤ sizeLine; decide, fun p hp => ⟨p, [x, y], rfl, .of upd_same, rfl, _, _, rfl, _, _, rfl, rfl, ?_⟩⟩⟩⟩
  obtain ⟨q1, l1⟩ := h1.toSlot (i := i) rp p1 b1
  have q1' := q1.step g2 p2.src
  obtain ⟨q2, l2⟩ := h2.toSlot (i := j) q1 q1' b2
  have g3 := q2.grUpd (o := .tup [x, y]) hp
  have q3 := q2.step g3 (q2.src.upd (q2.srcNe hp).1 (q2.srcNe hp).2)
  exact k.nx q3 (((g1.ke rp.fC).trans (g2.ke p1.fC)).trans (g3.ke q2.fC)) (((Lk.gr rp g1).trans (Lk.gr p1 g2)).trans (((Lk.set l1).trans (Lk.set l2)).trans (Lk.gr q2 g3)))
theorem LSs.par3c {i j l : Nat} {c1 c2 c3 : Pm.CE} (h : LSs X g (fun ss => ((evs [c1, c2, c3] sl ss).f toSs).bind fun p => (setAll [i, j, l] p.1 sl).map fun sl => .nx sl p.2) sl D σ H) :
    tAsg (tTup (tCons (LE X.K g (ev c1 sl) sl) (tCons (LE X.K g (ev c2 sl) sl) (tCons (LE X.K g (ev c3 sl) sl) tNil)))) (gTup X.K 3 (gCons (gName i) (gCons (gName j) (gCons (gName l) gNil)))) D σ H := by
  obtain ⟨F, ss, out, e, rp, k⟩ := h
  obtain ⟨⟨sv, s2⟩, e0, e⟩ := bind_of e
  obtain ⟨sl', e3, e4⟩ := map_of e
  cases e4
  obtain ⟨rs, e5, e6⟩ := O.f_of e0
  obtain ⟨r1, rs1, s1, a1, e51, rfl⟩ := evs_cons e5
  obtain ⟨r2, rs2, s2', a2, e52, rfl⟩ := evs_cons e51
  obtain ⟨r3, rs3, s3', a3, e53, rfl⟩ := evs_cons e52
  cases e53
  obtain ⟨v1, sv1, b1, e61, rfl⟩ := toSs_cons e6
  obtain ⟨v2, sv2, b2, e62, rfl⟩ := toSs_cons e61
  obtain ⟨v3, sv3, b3, e63, rfl⟩ := toSs_cons e62
  cases e63
  have e3 := setAll_cons (setAll_cons (setAll_cons e3))
  cases e3
  refine ⟨F, ss, r1, s1, a1, rp, fun x H1 F1 g1 p1 h1 => ⟨F1, s1, r2, _, a2, p1, fun y H2 F2 g2 p2 h2 => ⟨F2, _, r3, _, a3, p2, fun z H3 F3 g3 p3 h3 => ⟨by show 3 ≤ sizeLine; decide, fun p hp => ⟨p, [x, y, z], rfl, .of upd_same, rfl, _, _, rfl, _, _, rfl, _, _, rfl, rfl, ?_⟩⟩⟩⟩⟩
  obtain ⟨q1, l1⟩ := h1.toSlot (i := i) rp p1 b1
  have q1' := q1.step g2 p2.src
  obtain ⟨q2, l2⟩ := h2.toSlot (i := j) q1 q1' b2
  have q2' := q2.step g3 p3.src
  obtain ⟨q3, l3⟩ := h3.toSlot (i := l) q2 q2' b3
  have g4 := q3.grUpd (o := .tup [x, y, z]) hp
  have q4 := q3.step g4 (q3.src.upd (q3.srcNe hp).1 (q3.srcNe hp).2)
  exact k.nx q4 ((((g1.ke rp.fC).trans (g2.ke p1.fC)).trans (g3.ke p2.fC)).trans (g4.ke q3.fC)) ((((Lk.gr rp g1).trans (Lk.gr p1 g2)).trans (Lk.gr p2 g3)).trans ((((Lk.set l1).trans (Lk.set l2)).trans (Lk.set l3)).trans (Lk.gr q3 g4)))
/-! ### name op= e -/
def rAug : BOp → R2
  | .add => fun x y H Q => rI0 (fun i j => .int (i + j)) x y H Q ∨ rExt2 x y H Q
  | .sub => rI0 fun i j => .int (i - j)
  | .mul => rI CMul fun i j => .int (i * j)
  | .fdiv => rI CDiv fun i j => .int (i / j)
  | .mod => rI (fun _ j => 0 < j) fun i j => .int (i % j)
  | .pow => fun _ _ _ _ => False
def augOp : BOp → Operator
  | .add => .Add
  | .sub => .Sub
  | .mul => .Mult
  | .fdiv => .FloorDiv
  | .mod => .Mod
  | .pow => .Pow
theorem aug_ok {o : BOp} : PIp X (augOp o) (rAug o) := by
  intro pins s σ H x y v u Q I rx ry h
  cases o with
  | add => exact h.elim (iop_add pins s σ H x y v u Q I rx ry) (iop_ext pins s σ H x y v u Q I rx ry)
  | sub => exact iop_sub pins s σ H x y v u Q I rx ry h
  | mul => exact iop_mul pins s σ H x y v u Q I rx ry h
  | fdiv => exact iop_fdiv pins s σ H x y v u Q I rx ry h
  | mod => exact iop_mod pins s σ H x y v u Q I rx ry h
  | pow => exact h.elim
theorem augI_of {o : BOp} {x d z : Pm.D} (e : augI o x d = some z) : ∃ i j k, x = .int i ∧ d = .int j ∧ z = .int k ∧ ∀ H Q, Q (V.int k) H → rAug o (.int i) (.int j) H Q := by
  unfold augI at e
  split at e
  · cases e; exact ⟨_, _, _, rfl, rfl, rfl, fun H Q q => .inl ⟨_, _, rfl, rfl, q⟩⟩
  · cases e; exact ⟨_, _, _, rfl, rfl, rfl, fun H Q q => ⟨_, _, rfl, rfl, q⟩⟩
  · split at e <;> cases e
    rename_i hc
    refine ⟨_, _, _, rfl, rfl, rfl, fun H Q q => ⟨_, _, rfl, rfl, ?_, q⟩⟩
    unfold CMul
    rcases hc with hc | hc
    · exact .inl ⟨by omega, by omega⟩
    · exact .inr ⟨by omega, by omega⟩
  · split at e <;> cases e
    rename_i hc
    exact ⟨_, _, _, rfl, rfl, rfl, fun H Q q => ⟨_, _, rfl, rfl, hc, q⟩⟩
  · split at e <;> cases e
    rename_i hc
    exact ⟨_, _, _, rfl, rfl, rfl, fun H Q q => ⟨_, _, rfl, rfl, hc, q⟩⟩
  · cases e
theorem set_self {σ : L2.St} {i : Nat} {x : V} (e : σ[i]? = some (some x)) : σ.set i (some x) = σ := by
  apply List.ext_getElem?
  intro j
  by_cases hj : i = j
  · subst hj
    have hi := (List.getElem?_eq_some_iff.mp e).1
    rw [List.getElem?_set_self hi, e]
  · rw [List.getElem?_set_ne hj]
theorem LSs.aug {m : SS → O R} {i : Nat} {o : BOp} (h : LSs X g (fun ss => (toD (m ss)).bind fun p => (augD sl i o p.1).map fun sl => .nx sl p.2) sl D σ H) : tAug i (LE X.K g m sl) (rAug o) D σ H := by
  obtain ⟨F, ss, out, e, rp, k⟩ := h
  obtain ⟨⟨d, s1⟩, e1, e⟩ := bind_of e
  obtain ⟨sl', e3, e4⟩ := map_of e
  cases e4
  obtain ⟨r, e5, e6⟩ := O.f_of e1
  have e3 : augD sl i o d = some sl' := e3
  unfold augD at e3
  split at e3
  · rename_i x0 hs
    obtain ⟨z, e7, rfl⟩ := map_of e3
    obtain ⟨a, b, c, rfl, rfl, rfl, hq⟩ := augI_of e7
    obtain ⟨xv, ex, v, rfl, hv⟩ := rp.slot i _ hs
    cases hv
    refine ⟨_, ex, F, ss, r, s1, e5, rp, fun y H1 F1 g1 p1 h1 => ?_⟩
    obtain rfl := (h1.rd e6).int
    exact hq _ _ (k.nx (p1.setV (.int c)) (g1.ke rp.fC) ((Lk.gr rp g1).trans (Lk.set fun _ z => by cases z)))
  · rename_i xs hs
    have key : ∀ (o : BOp) (d : Pm.D), (match o, d with | .add, .list ys => if xs.length + ys.length ≤ SL then some (sl.set i (.own (xs ++ ys))) else none | _, _ => none) = some sl' → ∃ ys, o = .add ∧ d = .list ys ∧ xs.length + ys.length ≤ SL ∧ sl' = sl.set i (.own (xs ++ ys)) := by
      intro o d e
      cases o <;> try (cases e; done)
      cases d <;> try (cases e; done)
      rename_i ys
      have e : (if xs.length + ys.length ≤ SL then some (sl.set i (.own (xs ++ ys))) else none) = some sl' := e
      by_cases hl : xs.length + ys.length ≤ SL
      · rw [if_pos hl] at e; cases e; exact ⟨ys, rfl, rfl, hl, rfl⟩
      · rw [if_neg hl] at e; cases e
    obtain ⟨ys, rfl, rfl, hl, rfl⟩ := key o d e3
    obtain ⟨a, vs, ea, ha, _⟩ := rp.ownAt hs
    refine ⟨_, ea, F, ss, r, s1, e5, rp, fun y H1 F1 g1 p1 h1 => ?_⟩
    obtain ⟨b, us, rfl, hb, hu⟩ : ∃ b us, y = .ref b ∧ H1 b = some (.lst us) ∧ FDs X.K F1 H1 us ys := by
      rcases h1.rd e6 with h | ⟨a, vs, xs, ex, e1, e2, e3⟩
      · cases h with | lst f e r => exact ⟨_, _, rfl, e, r⟩
      · cases ex; exact ⟨_, _, e1, e2, e3⟩
    obtain ⟨a', vs', ea', ha', hv⟩ := p1.ownAt hs
    rw [ea] at ea'
    cases ea'
    obtain ⟨w1, w2, w3⟩ := p1.write hs ea ha' (hv.append hu)
    refine .inr ⟨a, b, vs', us, rfl, rfl, ha', hb, by rw [hv.length, hu.length, SL_eq]; exact hl, ?_⟩
    show D.nx (σ.set i (some (.ref a))) _
    rw [set_self ea]
    exact k.nx w1 ((g1.ke rp.fC).trans w2) ((Lk.gr rp g1).trans w3)
  · cases e3
/-- x[i], by values -/
def rGetL : R2 := fun o i H Q => ∃ p xs k j v, o = .ref p ∧ i = .int k ∧ H p = some (.lst xs) ∧ ixN xs.length k = some j ∧ xs[j]? = some v ∧ Q v H
theorem get_list : PGet X rGetL := by
  intro pins s σ H o i ov iv Q I ro ri h
  obtain ⟨p, xs, k, j, v, rfl, rfl, hp, hj, hv, q⟩ := h
  cases ro
  obtain ⟨t, rfl⟩ := ri
  obtain ⟨its, r, pl, hz⟩ := I.list (.of hp)
  have he : atI xs k = some v := by unfold atI; rw [show L2.ixN xs.length k = some j from hj]; exact hv
  obtain ⟨j, h1, h2, h3, h4, h5⟩ := atI_get he
  obtain ⟨w, ew, rw'⟩ := r.get h2
  have hl := r.length
  have hn := line63
  have fin : EP X pins σ Q w s := ⟨v, H, I, rw', q⟩
  by_cases h0 : 0 ≤ k
  · have hj : k.toNat = j := by
      rw [seqIndex_of h0 h5] at h1
      exact Option.some.inj h1
    exact wpAny_getItem_list pl.isList h0 (by omega) (by rw [hj]; simpa using ew) fin
  · have hj : (k + (its.toArray.size : Int)).toNat = j := by
      rw [seqIndex_neg (by omega) h4] at h1
      rw [List.size_toArray, ← hl]
      exact Option.some.inj h1
    exact wpAny_getItem_list_neg pl.isList (by omega) (by rw [List.size_toArray] <;> omega) (by omega) (by rw [hj]; simpa using ew) fin
theorem augsD_of {i : Nat} {kd d : Pm.D} {o : BOp} {sl' : List SV} (e : augsD sl i kd o d = some sl') : ∃ xs k j x z, sl[i]? = some (.own xs) ∧ kd = .int k ∧ ixN xs.length k = some j ∧ xs[j]? = some x ∧ augI o x d = some z ∧ sl' = sl.set i (.own (xs.set j z)) := by
  unfold augsD at e
  split at e
  · obtain ⟨j, e7, e⟩ := bind_of e
    obtain ⟨x0, e8, e⟩ := bind_of e
    obtain ⟨z, e9, rfl⟩ := map_of e
    exact ⟨_, _, j, x0, z, by assumption, rfl, e7, e8, e9, rfl⟩
  · cases e
theorem LSs.augs {mk m : SS → O R} {i : Nat} {o : BOp} (h : LSs X g (fun ss => (toD (mk ss)).bind fun p => (toD (m p.2)).bind fun q => (augsD sl i p.1 o q.1).map fun sl => .nx sl q.2) sl D σ H) :
    tAugS (tVar i) (LE X.K g mk sl) (LE X.K g m sl) rGetL (rAug o) rSetL D σ H := by
  obtain ⟨F, ss, out, e, rp, k⟩ := h
  obtain ⟨⟨kd, s1⟩, e1, e⟩ := bind_of e
  obtain ⟨⟨d, s2⟩, e2, e⟩ := bind_of e
  obtain ⟨sl', e3, e4⟩ := map_of e
  cases e4
  obtain ⟨rk, a1, b1⟩ := O.f_of e1
  obtain ⟨r, a2, b2⟩ := O.f_of e2
  obtain ⟨xs, kk, j, x0, z, hs, rfl, e7, e8, e9, rfl⟩ := augsD_of (show augsD sl i kd o d = some sl' from e3)
  · skip
    obtain ⟨ia, ib, ic, rfl, rfl, rfl, hq⟩ := augI_of e9
    obtain ⟨a, vs, ea, ha, _⟩ := rp.ownAt hs
    refine ⟨_, ea, F, ss, rk, s1, a1, rp, fun y H1 F1 g1 p1 h1 => ?_⟩
    obtain rfl := (h1.rd b1).int
    obtain ⟨a', vs', ea', ha', hv⟩ := p1.ownAt hs
    rw [ea] at ea'
    cases ea'
    obtain ⟨v0, ev0, fv0⟩ := hv.get e8
    cases fv0
    refine ⟨a, vs', kk, j, _, rfl, rfl, ha', by rw [hv.length]; exact e7, ev0, F1, s1, r, _, a2, p1, fun y2 H2 F2 g2 p2 h2 => ?_⟩
    obtain rfl := (h2.rd b2).int
    refine hq _ _ ?_
    obtain ⟨a2', vs2, ea2, ha2, hv2⟩ := p2.ownAt hs
    rw [ea] at ea2
    cases ea2
    obtain ⟨w1, w2, w3⟩ := p2.write hs ea ha2 (hv2.set (.int ic) j)
    exact ⟨a, vs2, kk, j, rfl, rfl, ha2, by rw [hv2.length]; exact e7, k.nx w1 (((g1.ke rp.fC).trans (g2.ke p1.fC)).trans w2) (((Lk.gr rp g1).trans (Lk.gr p1 g2)).trans w3)⟩
/-! ### x = y.pop(..) -/
theorem popAt_of {b : Bool} {xs : List Pm.D} {kd d : Pm.D} {ys : List Pm.D} (e : popAt b xs kd = some (d, ys)) :
    (b = true ∧ xs[xs.length - 1]? = some d ∧ ys = xs.dropLast) ∨ b = false ∧ ∃ k j, kd = .int k ∧ ixN xs.length k = some j ∧ xs[j]? = some d ∧ ys = xs.eraseIdx j ∧ -4611686018427387904 ≤ k ∧ k < 4611686018427387904 := by
  unfold popAt at e
  split at e
  · obtain ⟨x, e1, e2⟩ := map_of e
    cases e2
    rw [List.getLast?_eq_getElem?] at e1
    exact .inl ⟨rfl, e1, rfl⟩
  · split at e
    · rename_i k
      by_cases hk : -4611686018427387904 ≤ k ∧ k < 4611686018427387904
      case neg => rw [if_neg hk] at e; cases e
      rw [if_pos hk] at e
      obtain ⟨j, e1, e2⟩ := bind_of e
      obtain ⟨x, e3, e4⟩ := map_of e2
      cases e4
      exact .inr ⟨rfl, _, j, rfl, e1, e3, rfl, hk⟩
    · cases e
theorem FDs.dropLast {K : PySem.W.Frag} {F : Addr → Prop} {H : Hp} {vs : List V} {ds : List Pm.D} (h : FDs K F H vs ds) : FDs K F H vs.dropLast ds.dropLast := by
  rw [List.dropLast_eq_take, List.dropLast_eq_take, h.length]
  exact h.take _
theorem LSs.pop0 {i j : Nat} {c : Pm.CE} (hc : isNop c = true) (h : LSs X g (fun ss => (toD (ev c sl ss)).bind fun p => (ownL sl[i]?).bind fun xs => (popAt (isNop c) xs p.1).bind fun q => (setS (sl.set i (.own q.2)) j (.v q.1)).map fun sl => .nx sl p.2) sl D σ H) :
    tAsg (tBM0 X.K "list" rPop (tVar i)) (gName j) D σ H := by
  obtain ⟨F, ss, out, e, rp, k⟩ := h
  cases c <;> first | (cases hc; done) | skip
  have e : (ownL sl[i]?).bind (fun xs => (popAt true xs .none).bind fun q => (setS (sl.set i (.own q.2)) j (.v q.1)).map fun sl => Out.nx sl ss) = some out := e
  obtain ⟨xs, e2, e⟩ := bind_of e
  have e2 := ownL_of e2
  obtain ⟨⟨d, ys⟩, e3, e⟩ := bind_of e
  obtain ⟨sl', e4, e5⟩ := map_of e
  cases e5
  obtain ⟨rfl, _⟩ := setS_of e4
  rcases popAt_of e3 with ⟨_, e6, rfl⟩ | ⟨z, _⟩
  · obtain ⟨a, vs, ea, ha, hv⟩ := rp.ownAt e2
    refine ⟨_, ea, .inl ⟨rfl, vs, .of ha⟩, ?_⟩
    obtain ⟨v, e7, f7⟩ := hv.get e6
    obtain ⟨w1, w2, w3⟩ := rp.write e2 ea ha hv.dropLast
    exact ⟨a, vs, v, rfl, rfl, ha, by rw [hv.length]; exact e7, k.nx (w1.setV (f7.keep w2)) w2 (w3.trans (Lk.set fun _ z => by cases z))⟩
  · cases z
theorem LSs.popAt {i j : Nat} {m : SS → O R} (h : LSs X g (fun ss => (toD (m ss)).bind fun p => (ownL sl[i]?).bind fun xs => (Pm.popAt false xs p.1).bind fun q => (setS (sl.set i (.own q.2)) j (.v q.1)).map fun sl => .nx sl p.2) sl D σ H) :
    tAsg (tBM X.K "list" rPopAt (tVar i) (tCons (LE X.K g m sl) tNil)) (gName j) D σ H := by
  obtain ⟨F, ss, out, e, rp, k⟩ := h
  obtain ⟨⟨kd, s1⟩, e1, e⟩ := bind_of e
  obtain ⟨xs, e2, e⟩ := bind_of e
  have e2 := ownL_of e2
  obtain ⟨⟨d, ys⟩, e3, e⟩ := bind_of e
  obtain ⟨sl', e4, e5⟩ := map_of e
  cases e5
  obtain ⟨rfl, _⟩ := setS_of e4
  obtain ⟨r, a1, b1⟩ := O.f_of e1
  rcases popAt_of e3 with ⟨z, _⟩ | ⟨_, kk, jj, z, e6, e7, rfl, hk1, hk2⟩
  · cases z
  · have z : kd = .int kk := z
    subst z
    obtain ⟨a, vs, ea, ha, _⟩ := rp.ownAt e2
    refine ⟨_, ea, .inl ⟨rfl, vs, .of ha⟩, F, ss, r, s1, a1, rp, fun x H1 F1 g1 p1 h1 => ?_⟩
    obtain rfl := (h1.rd b1).int
    obtain ⟨a', vs', ea', ha', hv⟩ := p1.ownAt e2
    rw [ea] at ea'
    cases ea'
    obtain ⟨v, e8, f8⟩ := hv.get e7
    obtain ⟨h1', h2', h3', h4'⟩ := ixN_seq e6
    obtain ⟨w1, w2, w3⟩ := p1.write e2 ea ha' (hv.erase jj)
    exact ⟨a, vs', kk, jj, v, rfl, rfl, ha', by omega, by omega, by rw [hv.length]; exact h1', e8, k.nx (w1.setV (f8.keep w2)) ((g1.ke rp.fC).trans w2) ((Lk.gr rp g1).trans (w3.trans (Lk.set fun _ z => by cases z)))⟩
end
end Pm
namespace Pm
open PySem PySem.Spec PyProof.Rows L2
theorem isLock_of {sl : List SV} {i : Nat} (h : isLock sl i = true) : ∃ xs, sl[i]? = some (.lock xs) := by
  unfold isLock at h
  split at h
  · exact ⟨_, by assumption⟩
  · cases h
section
variable {K : PySem.W.Frag} {g : G} {F F' F1 : Addr → Prop} {H H' H1 : Hp} {ss ss1 : SS} {sl sl1 sl' : List SV} {σ σ' : L2.St} {D : Ends}
theorem CellOk.ke {c : Cell} (h : CellOk K F H c) (k : Ke K F F' H H') (hc : c.isL = true → F c.a ∨ H' c.a = H c.a) : CellOk K F' H' c := by
  refine ⟨?_, h.2.keep k⟩
  have h1 := h.1
  by_cases hl : c.isL = true
  · rw [if_pos hl] at h1 ⊢
    rcases hc hl with f | e
    · exact (k.lst _ _ f h1).2
    · rw [e]; exact h1
  · rw [if_neg hl] at h1 ⊢
    exact k.tup _ _ h1
theorem kept_of {ls : List Nat} {x : Option Out} {o : Out} (e : keptLocks ls x = some o) : x = some o ∧ ∀ sl ss, o = .nx sl ss → ∀ j ∈ ls, isLock sl j = true := by
  unfold keptLocks at e
  split at e
  · by_cases hc : ls.all (isLock ‹List SV›) = true
    · rw [if_pos hc] at e
      cases e
      refine ⟨rfl, fun sl ss z j hj => ?_⟩
      cases z
      exact List.all_eq_true.mp hc j hj
    · rw [if_neg hc] at e; cases e
  · refine ⟨e, fun sl ss z => ?_⟩
    subst z
    rename_i hn
    exact absurd e (hn sl ss)
theorem for_go {J : It} {ds : List Pm.D} {cs : List Cell} {ls : List Nat} {t : TGt} {mb : List SV → SS → Option Out} {out : Out} (wk : Wk K g J ds cs) (pc : Pcs K cs F1 H1) (r1 : Rp K g F1 ss1 sl1 σ H1)
    (hcell : ∀ c ∈ cs, c.isL = true → F1 c.a ∨ ∃ j ∈ ls, σ[j]? = some (some (.ref c.a))) (hls : ∀ j ∈ ls, isLock sl1 j = true)
    (e : forD (fun d sl' ss => (bindT t d sl').bind fun sl' => keptLocks ls (mb sl' ss)) ds sl1 ss1 = some out) (k : Po K g D F1 sl1 σ H1 out) :
    ∃ W : Nat → Nat → L2.St → Hp → Prop, (∃ m, W 0 m σ H1) ∧ ∀ i m σ H, W i m σ H →
      (J.stop i H ∧ D.nx σ H) ∨ (J.go i H ∧ ∃ N : L2.St → Hp → Prop, (∀ σ' H', N σ' H' → ∃ m', m' < m ∧ W (i + 1) m' σ' H') ∧ ∀ x H', J.yld i H x H' → LG K g t x σ H' fun σ2 H2 => LS K g mb { D with nx := N, ct := N, bk := D.nx } σ2 H2) := by
  generalize hf : (fun (d : Pm.D) (sl' : List SV) (ss : SS) => (bindT t d sl').bind fun sl' => keptLocks ls (mb sl' ss)) = f at e
  let St (i : Nat) (σ' : L2.St) (H' : Hp) : Prop := ∃ F2 ss2 sl2, i ≤ ds.length ∧ Rp K g F2 ss2 sl2 σ' H' ∧ Ke K F1 F2 H1 H' ∧ Lk sl1 sl2 σ σ' H1 H' ∧ (∀ j ∈ ls, isLock sl2 j = true) ∧ forD f (ds.drop i) sl2 ss2 = some out
  refine ⟨fun i m σ' H' => m = ds.length - i ∧ St i σ' H', ⟨_, rfl, F1, ss1, sl1, Nat.zero_le _, r1, .refl, .refl, hls, by simpa using e⟩, ?_⟩
  rintro i m σ2 H2 ⟨rfl, F2, ss2, sl2, hi, p2, k2, l2, hl2, he⟩
  have pc2 : Pcs K cs F2 H2 := fun c hc => (pc c hc).ke k2 fun hL => by
    rcases hcell c hc hL with h | ⟨j, hj, h⟩
    · exact .inl h
    · obtain ⟨xs, e2⟩ := isLock_of (hl2 j hj)
      exact .inr ((l2 j xs e2).2.2 _ h)
  by_cases hlt : i < ds.length
  · refine .inr ⟨wk.go i F2 H2 hlt pc2, St (i + 1), fun σ' H' z => ⟨_, by omega, rfl, z⟩, fun x H3 hy => ?_⟩
    obtain ⟨g3, sr3, d, hd, hx⟩ := wk.yld i F2 H2 ss2 x H3 hlt p2.at pc2 hy
    have p3 := p2.step g3 sr3
    have ed : ds.drop i = d :: ds.drop (i + 1) := by
      rw [List.drop_eq_getElem_cons hlt]
      rw [List.getElem?_eq_getElem hlt] at hd
      cases hd; rfl
    rw [ed] at he
    unfold forD at he
    obtain ⟨o1, eo, hnext⟩ : ∃ o1, f d sl2 ss2 = some o1 ∧ (match o1 with | .nx sl ss => forD f (ds.drop (i + 1)) sl ss = some out | .rt r ss => Out.rt r ss = out) := by
      cases q : f d sl2 ss2 with
      | none => rw [q] at he; cases he
      | some o1 =>
        rw [q] at he
        cases o1 with
        | nx sl ss => exact ⟨_, rfl, he⟩
        | rt r ss => exact ⟨_, rfl, Option.some.inj he⟩
    rw [← hf] at eo
    obtain ⟨sl3, eb, eo⟩ := bind_of eo
    obtain ⟨eo, ek⟩ := kept_of eo
    refine ⟨F2, ss2, sl2, d, sl3, p3, hx, eb, fun σ3 p4 _ k4 => ?_⟩
    have l4 : Lk sl2 sl3 σ2 σ3 H3 H3 := Lk.bind eb k4
    have ke3 : Ke K F1 F2 H1 H3 := k2.trans (g3.ke p2.fC)
    have lk3 : Lk sl1 sl3 σ σ3 H1 H3 := (l2.trans (Lk.gr p2 g3)).trans l4
    refine ⟨F2, ss2, sl3, o1, eo, p4, ?_⟩
    cases o1 with
    | nx sl4 ss4 => exact fun σ' H' F' r k' l' => ⟨F', ss4, sl4, hlt, r, ke3.trans k', lk3.trans l', ek _ _ rfl, hnext⟩
    | rt r ss4 =>
      have hnext : Out.rt r ss4 = out := hnext
      subst hnext
      exact k
  · have ei : i = ds.length := by omega
    subst ei
    rw [List.drop_length] at he
    cases he
    exact .inl ⟨wk.stop F2 H2 pc2, k.nx p2 k2 l2⟩
end
section
variable {X : Cx} {g : G} {sl : List SV} {D : Ends} {σ : L2.St} {H : Hp}
/-- for over what is no list of one's own -/
theorem LSs.for0 {mi : SS → O R} {t : TGt} {mb : List SV → SS → Option Out} {wi : TI} (hwi : ∀ σ H R, LI X.K g true (fun ss => toI (mi ss)) sl σ H R → wi σ H R)
    (h : LSs X g (fun ss => (toI (mi ss)).bind fun p => forD (fun d sl' ss => (bindT t d sl').bind fun sl' => keptLocks [] (mb sl' ss)) p.1 sl p.2) sl D σ H) : tFor wi (LG X.K g t) (LS X.K g mb) D σ H := by
  obtain ⟨F, ss, out, e, rp, k⟩ := h
  obtain ⟨⟨ds, s1⟩, e1, e⟩ := bind_of e
  refine hwi _ _ _ ⟨F, ss, ds, s1, e1, rp, fun J H1 F1 cs g1 p1 wk pc org => ?_⟩
  -- the walked lists are kept
  obtain ⟨F2, g2, p2, sub, hF⟩ : ∃ F2, Gr g F F2 H H1 ∧ Rp X.K g F2 s1 sl σ H1 ∧ (∀ a, F1 a → F2 a) ∧ ∀ c ∈ cs, c.isL = true → F2 c.a := by
    have oc : ∀ c ∈ cs, c.isL = true → (F1 c.a ∨ (H c.a = none ∧ ∃ vs, H1 c.a = some (.lst vs))) := fun c hc hl => by
      have h1 := (pc c hc).1
      rw [if_pos hl] at h1
      rcases org c hc hl with o | o | o
      · exact .inl o
      · exact .inr ⟨o.1, _, h1⟩
      · cases o.1
    refine ⟨fun a => F1 a ∨ ∃ c ∈ cs, c.isL = true ∧ c.a = a ∧ ¬ F1 a, ?_, ?_, fun a f => .inl f, fun c hc hl => ?_⟩
    rotate_left 2
    · by_cases hf : F1 c.a
      · exact .inl hf
      · exact .inr ⟨c, hc, hl, rfl, hf⟩
    · have G2 : Gr g F (fun a => F1 a ∨ ∃ c ∈ cs, c.isL = true ∧ c.a = a ∧ ¬ F1 a) H H1 := by
        refine ⟨g1.keep, fun a f => .inl (g1.sub a f), fun a f => ?_, fun a f => ?_, fun f => ?_, g1.src⟩
        · rcases f with f | ⟨c, hc, hl, rfl, nf⟩
          · exact g1.new a f
          · rcases oc c hc hl with o | o
            · exact absurd o nf
            · exact .inr o.1
        · rcases f with f | ⟨c, hc, hl, rfl, nf⟩
          · exact g1.dom a f
          · rcases oc c hc hl with o | o
            · exact absurd o nf
            · exact o.2
        · rcases f with f | ⟨c, hc, hl, z, nf⟩
          · exact g1.fC f
          · rcases oc c hc hl with o | o
            · exact nf (z ▸ o)
            · rw [z, rp.src.2.1] at o; cases o.1
      exact G2
    · have G2 : Gr g F (fun a => F1 a ∨ ∃ c ∈ cs, c.isL = true ∧ c.a = a ∧ ¬ F1 a) H H1 := by
        refine ⟨g1.keep, fun a f => .inl (g1.sub a f), fun a f => ?_, fun a f => ?_, fun f => ?_, g1.src⟩
        · rcases f with f | ⟨c, hc, hl, rfl, nf⟩
          · exact g1.new a f
          · rcases oc c hc hl with o | o
            · exact absurd o nf
            · exact .inr o.1
        · rcases f with f | ⟨c, hc, hl, rfl, nf⟩
          · exact g1.dom a f
          · rcases oc c hc hl with o | o
            · exact absurd o nf
            · exact o.2
        · rcases f with f | ⟨c, hc, hl, z, nf⟩
          · exact g1.fC f
          · rcases oc c hc hl with o | o
            · exact nf (z ▸ o)
            · rw [z, rp.src.2.1] at o; cases o.1
      exact rp.step G2 p1.src
  have pc2 : Pcs X.K cs F2 H1 := fun c hc => (pc c hc).ke (F' := F2) ⟨fun _ _ h => h, fun a _ f e => ⟨sub a f, e⟩⟩ fun _ => .inr rfl
  exact for_go wk pc2 p2 (fun c hc hl => .inl (hF c hc hl)) (fun _ hj => by cases hj) e (k.gr rp g2)
/-- unlocking -/
theorem unlock_po {F : Addr → Prop} {ss' : SS} {sl' : List SV} {i : Nat} {xs : List Pm.D} (hs : sl[i]? = some (.own xs)) (k : Po X.K g D F sl σ H (.nx (unlockS true sl' i) ss')) : Po X.K g D F (sl.set i (.lock xs)) σ H (.nx sl' ss') := by
  have hi : i < sl.length := (List.getElem?_eq_some_iff.mp hs).1
  intro σ' H' F' r ke lk
  by_cases hl : ∃ ys, sl'[i]? = some (.lock ys)
  · obtain ⟨ys, hl⟩ := hl
    have eu : unlockS true sl' i = sl'.set i (.own ys) := by unfold unlockS; rw [hl]
    rw [eu] at k
    have hi' : i < sl'.length := (List.getElem?_eq_some_iff.mp hl).1
    refine k.nx (r.swap hl rfl fun x z => z) ke fun j zs e => ?_
    by_cases hj : i = j
    · subst hj; rw [List.getElem?_set_self hi'] at e; cases e
    · rw [List.getElem?_set_ne hj] at e
      obtain ⟨h1, h2, h3⟩ := lk j zs e
      rw [List.getElem?_set_ne hj] at h1
      exact ⟨h1, h2, h3⟩
  · have eu : unlockS true sl' i = sl' := by
      unfold unlockS
      split
      · exact absurd ⟨_, ‹_›⟩ hl
      · rfl
    rw [eu] at k
    refine k.nx r ke fun j zs e => ?_
    by_cases hj : i = j
    · subst hj; exact absurd ⟨_, e⟩ hl
    · obtain ⟨h1, h2, h3⟩ := lk j zs e
      rw [List.getElem?_set_ne hj] at h1
      exact ⟨h1, h2, h3⟩
/-- for over a list of one's own, by its name -/
theorem LSs.for1 {i : Nat} {en : Bool} {t : TGt} {mb : List SV → SS → Option Out} {xs : List Pm.D} (hs : sl[i]? = some (.own xs) ∨ sl[i]? = some (.lock xs))
    (h : LSs X g (fun ss => match forD (fun d sl' ss => (bindT t d sl').bind fun sl' => keptLocks [i] (mb sl' ss)) (if en then enumD xs else xs) (lockS sl i) ss with
      | some (.nx sl' ss') => some (.nx (unlockS (isOwn sl i) sl' i) ss')
      | r => r) sl D σ H) : tFor (fun σ H R => tVar i σ H fun x H1 => ∃ a, x = .ref a ∧ (∃ xs, SqL X.K H1 a xs) ∧ R (if en then Ite X.K a else Itl X.K a) H1) (LG X.K g t) (LS X.K g mb) D σ H := by
  obtain ⟨F, ss, out, e, rp, k⟩ := h
  have e : (match forD (fun d sl' ss => (bindT t d sl').bind fun sl' => keptLocks [i] (mb sl' ss)) (if en then enumD xs else xs) (lockS sl i) ss with
      | some (.nx sl' ss') => some (.nx (unlockS (isOwn sl i) sl' i) ss')
      | r => r) = some out := e
  have hi : i < sl.length := hs.elim (fun h => (List.getElem?_eq_some_iff.mp h).1) fun h => (List.getElem?_eq_some_iff.mp h).1
  obtain ⟨a, vs, ea, ha, hv⟩ : ∃ a vs, σ[i]? = some (some (.ref a)) ∧ H a = some (.lst vs) ∧ FDs X.K F H vs xs := by
    rcases hs with hs | hs
    · exact rp.ownAt hs
    · obtain ⟨x, e1, a, vs, rfl, h1, h2, h3⟩ := rp.slot i _ hs
      exact ⟨a, vs, e1, h1, h2⟩
  refine ⟨_, ea, a, rfl, ⟨vs, .of ha⟩, ?_⟩
  have wk : Wk X.K g (if en = true then Ite X.K a else Itl X.K a) (if en = true then enumD xs else xs) [⟨a, true, vs, xs⟩] := by
    cases en
    · exact wk_list hv.length
    · exact wk_enum hv.length
  have pc : Pcs X.K [⟨a, true, vs, xs⟩] F H := fun c hc => by
    obtain rfl := List.mem_singleton.mp hc
    exact ⟨ha, hv⟩
  -- locked
  obtain ⟨hlk, p1, o1, eo, k1⟩ : isLock (lockS sl i) i = true ∧ Rp X.K g F ss (lockS sl i) σ H ∧ ∃ o1, forD (fun d sl' ss => (bindT t d sl').bind fun sl' => keptLocks [i] (mb sl' ss)) (if en = true then enumD xs else xs) (lockS sl i) ss = some o1 ∧ Po X.K g D F (lockS sl i) σ H o1 := by
    have hfor : ∃ o1, forD (fun d sl' ss => (bindT t d sl').bind fun sl' => keptLocks [i] (mb sl' ss)) (if en = true then enumD xs else xs) (lockS sl i) ss = some o1 ∧ (match o1 with | .nx sl' ss' => out = .nx (unlockS (isOwn sl i) sl' i) ss' | .rt r s => out = .rt r s) := by
      cases q : forD (fun d sl' ss => (bindT t d sl').bind fun sl' => keptLocks [i] (mb sl' ss)) (if en = true then enumD xs else xs) (lockS sl i) ss with
      | none => rw [q] at e; cases e
      | some o1 =>
        rw [q] at e
        cases o1 with
        | nx sl' s' => exact ⟨_, rfl, (Option.some.inj e).symm⟩
        | rt r s => exact ⟨_, rfl, (Option.some.inj e).symm⟩
    obtain ⟨o1, eo, ho⟩ := hfor
    rcases hs with hs | hs
    · have es : lockS sl i = sl.set i (.lock xs) := by unfold lockS; rw [hs]
      have eb : isOwn sl i = true := by unfold isOwn; rw [hs]
      refine ⟨by rw [es]; unfold isLock; rw [List.getElem?_set_self hi], by rw [es]; exact rp.swap hs rfl fun x z => z, o1, eo, ?_⟩
      rw [es]
      cases o1 with
      | nx sl' s' =>
        have ho : out = .nx (unlockS (isOwn sl i) sl' i) s' := ho
        rw [eb] at ho
        subst ho
        exact unlock_po hs k
      | rt r s =>
        have ho : out = .rt r s := ho
        subst ho
        exact k
    · have es : lockS sl i = sl := by unfold lockS; rw [hs]
      have eb : isOwn sl i = false := by unfold isOwn; rw [hs]
      refine ⟨by rw [es]; unfold isLock; rw [hs], by rw [es]; exact rp, o1, eo, ?_⟩
      rw [es]
      cases o1 with
      | nx sl' s' =>
        have ho : out = .nx (unlockS (isOwn sl i) sl' i) s' := ho
        rw [eb] at ho
        have : unlockS false sl' i = sl' := by unfold unlockS; rfl
        rw [this] at ho
        subst ho
        exact k
      | rt r s =>
        have ho : out = .rt r s := ho
        subst ho
        exact k
  exact for_go wk pc p1 (fun c hc _ => by obtain rfl := List.mem_singleton.mp hc; exact .inr ⟨i, List.mem_singleton.mpr rfl, ea⟩) (fun j hj => by obtain rfl := List.mem_singleton.mp hj; exact hlk) eo k1
/-- a test whatever the slots -/
def LTx (K : PySem.W.Frag) (g : G) (m : List SV → SS → O Bool) : TT := fun σ H Q => ∃ sl, LT K g (m sl) sl σ H Q
theorem pt_x {e : Expr} {m : List SV → SS → O Bool} (h : ∀ sl, PT X e (LT X.K g (m sl) sl)) : PT X e (LTx X.K g m) := ⟨fun pins s σ H Q I q => by
  obtain ⟨sl, q⟩ := q
  exact (h sl).run pins s σ H Q I q⟩
theorem LSs.whl {c : List SV → SS → O Bool} {mb : List SV → SS → Option Out} {fuel : Nat} (h : LSs X g (fun ss => whD c mb fuel sl ss) sl D σ H) : tWhile (LTx X.K g c) (LS X.K g mb) D σ H := by
  obtain ⟨F, ss, out, e, rp, k⟩ := h
  let St (n : Nat) (σ' : L2.St) (H' : Hp) : Prop := ∃ F2 ss2 sl2, Rp X.K g F2 ss2 sl2 σ' H' ∧ Ke X.K F F2 H H' ∧ Lk sl sl2 σ σ' H H' ∧ whD c mb n sl2 ss2 = some out
  refine ⟨St, ⟨fuel, F, ss, sl, rp, .refl, .refl, e⟩, ?_⟩
  rintro n σ2 H2 ⟨F2, ss2, sl2, p2, k2, l2, he⟩
  cases n with
  | zero => cases he
  | succ n =>
    unfold whD at he
    obtain ⟨⟨b, s3⟩, e1, he⟩ := bind_of he
    refine ⟨sl2, F2, ss2, b, s3, e1, p2, fun H3 F3 g3 p3 => ?_⟩
    have ke3 := k2.trans (g3.ke (K := X.K) p2.fC)
    have lk3 := l2.trans (Lk.gr p2 g3)
    cases b with
    | true =>
      refine iteT ?_
      refine ⟨St n, fun σ' H' z => ⟨n, Nat.lt_succ_self _, z⟩, ?_⟩
      have he : (match mb sl2 s3 with | some (.nx sl ss) => whD c mb n sl ss | r => r) = some out := he
      cases q : mb sl2 s3 with
      | none => rw [q] at he; cases he
      | some o1 =>
        rw [q] at he
        refine ⟨F3, s3, sl2, o1, q, p3, ?_⟩
        cases o1 with
        | nx sl4 ss4 => exact fun σ' H' F' r k' l' => ⟨F', ss4, sl4, r, ke3.trans k', lk3.trans l', he⟩
        | rt r ss4 =>
          have he : some (Out.rt r ss4) = some out := he
          cases he
          exact k
    | false =>
      refine iteF ?_
      have he : some (Out.nx sl2 s3) = some out := he
      cases he
      exact k.nx p3 ke3 lk3
end
end Pm
namespace Pm
open PySem PySem.Spec PyProof.Rows L2
def lclB (sc : Scope) (x : Str) : Bool := sc.names.lookup x == some .local
def swV (sc : Scope) (y : Str) (py : Pos) : Expr → Bool
  | .ListComp _ _ s pos => lclB sc y && py.line == pos.line && !(s.names.any fun (n, k) => n == y && (k == .local || k == .cell))
  | _ => false
def compB : Expr → Bool
  | .SetComp _ _ _ _ | .DictComp _ _ _ _ _ => true
  | _ => false
def nameB : Expr → Bool
  | .Name _ _ => true
  | _ => false
def noSwB (ts : List Expr) : Expr → Bool
  | .Tuple vs _ _ => ts.any (fun t => !nameB t) || !(ts.length == 2 || ts.length == 3) || vs.all (foldedForSure 8)
  | _ => true
/-- names stored from the right -/
def parB (sc : Scope) (xs : List Str) (vs : List Expr) : Bool :=
  xs.all (lclB sc) && (xs.eraseDups.length == xs.length) && !vs.all (foldedForSure 8) && !vs.all (constantsAlone 8) && !vs.any starB
/-- some name is a cell: no exchange -/
def parC (sc : Scope) (xs : List Str) : Bool := xs.all (locB sc) && xs.any fun x => !lclB sc x
def tupT : TGt → Bool
  | .tup _ => true
  | _ => false
mutual
def chkS (sc : Scope) (N : List Str) : CS → Stmt → Bool
  | .set i e, .Assign [.Name x py] v _ => N[i]? == some x && locB sc x && vl e && chkE sc N e v && !compB v
  | .unp t e, .Assign [.Tuple ts k p] v _ => tupT t && chkT (locB sc) N t (.Tuple ts k p) && vl e && chkE sc N e v && noSwB ts v && !compB v
  | .par js es, .Assign [.Tuple ts _ _] (.Tuple vs _ _) _ => chkA sc N es vs && (js.length == vs.length) && (match js, ts with
    | [i, j], [.Name x p, .Name y q] => N[i]? == some x && N[j]? == some y && ((p.line == q.line && parB sc [x, y] vs) || parC sc [x, y])
    | [i, j, l], [.Name x p, .Name y q, .Name z r] => N[i]? == some x && N[j]? == some y && N[l]? == some z && ((p.line == q.line && p.line == r.line && parB sc [x, y, z] vs) || parC sc [x, y, z])
    | _, _ => false)
  | .sto i k e, .Assign [.Subscript (.Name x _) ke _] v _ => N[i]? == some x && visB sc x && noDbg x && vl k && chkE sc N k ke && vl e && chkE sc N e v && !compB v
  | .dput i k e, .Assign [.Subscript (.Name x _) ke _] v _ => N[i]? == some x && visB sc x && noDbg x && vl k && chkE sc N k ke && vl e && chkE sc N e v && !compB v
  | .sto2 i k j l e f, .Assign [.Tuple [.Subscript (.Name x _) ke _, .Subscript (.Name y _) le _] _ _] (.Tuple [v, w] _ _) _ =>
      N[i]? == some x && visB sc x && noDbg x && vl k && chkE sc N k ke && N[j]? == some y && visB sc y && noDbg y && vl l && chkE sc N l le && vl e && chkE sc N e v && vl f && chkE sc N f w
  | .aug i o e, .AugAssign (.Name x _) p v _ => N[i]? == some x && locB sc x && (augOp o == p) && vl e && chkE sc N e v
  | .augs i k o e, .AugAssign (.Subscript (.Name x _) ke _) p v _ => N[i]? == some x && visB sc x && noDbg x && vl k && chkE sc N k ke && (augOp o == p) && vl e && chkE sc N e v
  | .app i e, .Expr (.Call (.Attribute (.Name x _) m ap) [a] [] cp) _ => N[i]? == some x && visB sc x && noDbg x && (m == "append") && (ap.endLine == cp.line) && vl e && chkE sc N e a
  | .ext i e, .Expr (.Call (.Attribute (.Name x _) m ap) [a] [] cp) _ => N[i]? == some x && visB sc x && noDbg x && (m == "extend") && (ap.endLine == cp.line) && vl e && chkE sc N e a
  | .popS j i k, .Assign [.Name y _] (.Call (.Attribute (.Name x _) m ap) as [] cp) _ => N[j]? == some y && locB sc y && N[i]? == some x && visB sc x && noDbg x && (m == "pop") && (ap.endLine == cp.line) && (match as with
    | [] => isNop k
    | [a] => !isNop k && vl k && chkE sc N k a
    | _ => false)
  | .exp .nop, .Expr (.Constant (.str _) _ _) _ => true
  | .exp e, .Expr v _ => vl e && chkE sc N e v && !compB v && (match v with | .ListComp _ _ _ _ => false | _ => true)
  | .ite c a b, .If t xs ys _ => vl c && chkE sc N c t && chkSs sc N a xs && chkSs sc N b ys
  | .forr t it body, .For tg iter xs [] _ => chkT (locB sc) N t tg && (!enB it || tupB tg) && chkE sc N it iter && !setB iter && (match it with
    | .loc _ => true
    | .enm (.loc _) => true
    | e => noBo e) && chkSs sc N body xs
  | .whl c body, .While t xs [] _ => vl c && chkE sc N c t && chkSs sc N body xs
  | .ret e, .Return (some v) _ => vl e && chkE sc N e v
  | .retn, .Return none _ => true
  | .never, _ => true
  | .sput k i e, .Assign [.Subscript (.Name x _) (.Constant (.str y) _ _) _] v _ => N[i]? == some x && visB sc x && noDbg x && (y == k.name) && vl e && chkE sc N e v && !compB v
  | .spop i, .Assign [.Subscript (.Name x _) (.Constant (.str y) _ _) _] (.Call (.Attribute (.Subscript (.Name z _) (.Constant (.str w) _ _) _) m ap) [] [] cp) _ =>
      N[i]? == some x && visB sc x && noDbg x && (y == "left") && (z == x) && (w == "cells") && (m == "pop") && (ap.endLine == cp.line)
  | .appPop i j e, .Expr (.Call (.Attribute (.Name x _) m ap) [.Call (.Attribute (.Name y _) n bp) [a] [] dp] [] cp) _ =>
      N[i]? == some x && visB sc x && noDbg x && (m == "append") && (ap.endLine == cp.line) && N[j]? == some y && visB sc y && noDbg y && (n == "pop") && (bp.endLine == dp.line) && vl e && chkE sc N e a
  | .rmix r s l fx _, .Return (some (.ListComp (.Call (.Attribute (.Name x _) m ap) [.Call (.Name f _) [.Name y _, .Call (.Name ln _) [.Name x' _] [] _] [] _] [] cp) [⟨.Name z _, .Call (.Name rg _) [.Call (.Name ln' _) [.Name x'' _] [] _] [] _, [], as⟩] scope _)) _ =>
      (as == 0) && blkB N sc scope [(N.getD l "", l)] && N[r]? == some x && N[s]? == some y && N[l]? == some z && locB scope z && visB (relS scope sc) x && noDbg x && visB (relS scope sc) y && noDbg y && (m == "pop") && (ap.endLine == cp.line) &&
      (f == fx) && gloB (relS scope sc) f && noDbg f && (ln == "len") && gloB (relS scope sc) ln && (x' == x) && rangeB sc rg && (ln' == "len") && gloB sc ln' && (x'' == x) && visB sc x
  | _, _ => false
def chkSs (sc : Scope) (N : List Str) : List CS → List Stmt → Bool
  | [], [] => true
  | .frz _ :: cs, ss => chkSs sc N cs ss
  | .kill _ :: cs, ss => chkSs sc N cs ss
  | c :: cs, s :: ss => chkS sc N c s && chkSs sc N cs ss
  | _, _ => false
end
mutual
def callsS : CS → List (Str × Fn)
  | .set _ e => calls e
  | .unp _ e => calls e
  | .par _ es => callss es
  | .sto _ k e => calls k ++ calls e
  | .dput _ k e => calls k ++ calls e
  | .sto2 _ k _ l e f => calls k ++ calls l ++ calls e ++ calls f
  | .aug _ _ e => calls e
  | .augs _ k _ e => calls k ++ calls e
  | .app _ e => calls e
  | .ext _ e => calls e
  | .popS _ _ k => calls k
  | .exp e => calls e
  | .ite c a b => calls c ++ callsSs a ++ callsSs b
  | .forr _ it b => calls it ++ callsSs b
  | .whl c b => calls c ++ callsSs b
  | .ret e => calls e
  | .sput _ _ e => calls e
  | .appPop _ _ e => calls e
  | .rmix _ _ _ x f => [(x, f)]
  | _ => []
def callsSs : List CS → List (Str × Fn)
  | [] => []
  | c :: cs => callsS c ++ callsSs cs
end
mutual
def globsS : CS → List (Str × D)
  | .set _ e => globs e
  | .unp _ e => globs e
  | .par _ es => globss es
  | .sto _ k e => globs k ++ globs e
  | .dput _ k e => globs k ++ globs e
  | .sto2 _ k _ l e f => globs k ++ globs l ++ globs e ++ globs f
  | .aug _ _ e => globs e
  | .augs _ k _ e => globs k ++ globs e
  | .app _ e => globs e
  | .ext _ e => globs e
  | .popS _ _ k => globs k
  | .exp e => globs e
  | .ite c a b => globs c ++ globsSs a ++ globsSs b
  | .forr _ it b => globs it ++ globsSs b
  | .whl c b => globs c ++ globsSs b
  | .ret e => globs e
  | .sput _ _ e => globs e
  | .appPop _ _ e => globs e
  | _ => []
def globsSs : List CS → List (Str × D)
  | [] => []
  | c :: cs => globsS c ++ globsSs cs
end
structure GoodS (X : Cx) (j : Nat) : Prop extends Good X j where
  own : PassesOwn (model X.prog X.w) X.A X.env X.xe
  fn : ∀ x, X.fn x = true
  kind : X.env.scope.kind = .function
/-! ### stores that are exchanged -/
theorem blk_kind {env : Env} (h : env.scope.kind = .function) : env.blockKind = .function := by unfold Env.blockKind; rw [h]; rfl
theorem sw_lc {env : Env} (h : env.scope.kind = .function) {elt : Expr} {gs : List Comprehension} {scope : Scope} {pos py : Pos} {y : Str} {l : Nat} :
    swapsWith (.ListComp elt gs scope pos) (some (.Name y py)) l env = pure (swV env.scope y py (.ListComp elt gs scope pos)) := by
  unfold swapsWith swV lclB
  simp only [blk_kind h, Expr.pos, Env.kindOf]
  simp
theorem sw_no {v : Expr} {t : Option Expr} {l : Nat} {env : Env} (h : compB v = false) (hl : ∀ a b c d, v ≠ .ListComp a b c d) : swapsWith v t l env = pure false := by
  cases v <;> first | rfl | exact absurd h Bool.noConfusion | exact absurd rfl (hl _ _ _ _)
theorem sw_sub {v : Expr} {o i : Expr} {p : Pos} {l : Nat} {env : Env} (h : compB v = false) : swapsWith v (some (.Subscript o i p)) l env = pure false := by
  cases v <;> first | rfl | exact absurd h Bool.noConfusion
theorem sw_subS {v : Expr} {o i : Expr} {p : Pos} {l : Nat} {env : Env} (h : compB v = false) : swapsWithSole [.Subscript o i p] v l env = pure false := by
  cases v <;> first | rfl | exact absurd h Bool.noConfusion
theorem sw_tup {v : Expr} {ts : List Expr} {k : Nat} {p : Pos} {l : Nat} {env : Env} (h : compB v = false) : swapsWithSole [.Tuple ts k p] v l env = pure false := by
  cases v <;> first | rfl | exact absurd h Bool.noConfusion
theorem fm_all {α β : Type} {f : α → Option β} : ∀ {l : List α}, (l.filterMap f).length = l.length → ∀ t ∈ l, (f t).isSome = true
  | [], _, t, ht => by cases ht
  | a :: l, h, t, ht => by
    have hle : (l.filterMap f).length ≤ l.length := List.length_filterMap_le f l
    cases e : f a with
    | none => rw [List.filterMap_cons, e] at h; simp only [List.length_cons] at h; omega
    | some b =>
      rw [List.filterMap_cons, e] at h
      simp only [List.length_cons, Nat.add_right_cancel_iff] at h
      rcases List.mem_cons.mp ht with rfl | ht
      · rw [e]; rfl
      · exact fm_all h t ht
theorem noSw {ts : List Expr} {v : Expr} {k : Nat} {p : Pos} {env : Env} (h : noSwB ts v = true) : swappedStores [.Tuple ts k p] v env = pure none := by
  cases v with
  | Tuple vs k' p' =>
    have h : (ts.any (fun t => !nameB t) || !(ts.length == 2 || ts.length == 3) || vs.all (foldedForSure 8)) = true := h
    unfold swappedStores
    simp only []
    split
    · rfl
    rename_i h1
    split
    · rfl
    split
    · rfl
    rename_i h3
    split
    · rfl
    rename_i h4
    exfalso
    simp only [Bool.or_eq_true] at h
    rcases h with (h | h) | h
    · obtain ⟨t, ht, hn⟩ := List.any_eq_true.mp h
      simp only [bne_iff_ne, ne_eq, Bool.or_eq_true, not_or, Decidable.not_not] at h3
      have := fm_all h3.1 t ht
      cases t <;> first | (exact absurd hn Bool.false_ne_true) | (exact absurd this Bool.false_ne_true)
    · rw [Bool.or_eq_true, Bool.or_eq_true] at h1
      exact h1 (.inl (.inl h))
    · exact h4 h
  | _ => rfl
theorem noSwC {ts : List Expr} {v : Expr} {k : Nat} {p : Pos} {env : Env} {x : Str} {q : Pos} (hm : Expr.Name x q ∈ ts) (h : lclB env.scope x = false) : swappedStores [.Tuple ts k p] v env = pure none := by
  cases v with
  | Tuple vs k' p' =>
    unfold swappedStores
    simp only []
    split
    · rfl
    split
    · rfl
    split
    · rfl
    rename_i h3
    exfalso
    simp only [bne_iff_ne, ne_eq, Bool.or_eq_true, not_or, Decidable.not_not] at h3
    have := fm_all h3.1 _ hm
    have hk : (env.kindOf x == some NameKind.local) = false := h
    simp [hk] at this
  | _ => rfl
theorem par2_sw {env : Env} (hk : env.scope.kind = .function) {x y : Str} {p q pt : Pos} {kt k2 : Nat} {pt2 : Pos} {a b : Expr} (hl : (p.line == q.line) = true) (h : parB env.scope [x, y] [a, b] = true) :
    swappedStores [.Tuple [.Name x p, .Name y q] kt pt] (.Tuple [a, b] k2 pt2) env = pure (some [x, y]) ∧ x ≠ y ∧ env.scope.names.lookup x = some .local ∧ env.scope.names.lookup y = some .local := by
  unfold parB at h
  simp only [Bool.and_eq_true, Bool.not_eq_true', List.all_cons, List.all_nil, Bool.and_true, beq_iff_eq] at h
  obtain ⟨⟨⟨⟨⟨hx, hy⟩, hd⟩, hf⟩, hc⟩, hs⟩ := h
  have hx : env.scope.names.lookup x = some .local := eq_of_beq hx
  have hy : env.scope.names.lookup y = some .local := eq_of_beq hy
  have hl : p.line = q.line := eq_of_beq hl
  refine ⟨?_, fun z => ?_, hx, hy⟩
  · unfold swappedStores
    simp only [blk_kind hk, Env.kindOf, hx, hy, List.filterMap_cons, List.filterMap_nil, List.head?_cons, Option.map_some, Option.getD_some, Expr.pos, hl, beq_self_eq_true, Bool.and_self, if_true, Bool.and_true]
    refine (if_neg (fun h => Bool.false_ne_true h)).trans ?_
    split
    · rename_i h2
      exfalso
      simp only [List.any_cons, List.any_nil, Bool.or_false, Bool.or_eq_false_iff] at hs
      simp only [List.any_cons, List.any_nil, Bool.or_false, Bool.or_eq_true] at h2
      rcases h2 with h2 | h2
      · cases a <;> first | (exact absurd h2 Bool.false_ne_true) | (exact absurd hs.1 Bool.noConfusion)
      · cases b <;> first | (exact absurd h2 Bool.false_ne_true) | (exact absurd hs.2 Bool.noConfusion)
    · rw [if_neg (by rw [hd]; simp), if_neg (by simp only [List.all_cons, List.all_nil, Bool.and_true]; rw [hf]; simp), if_neg (by simp only [List.all_cons, List.all_nil, Bool.and_true]; rw [hc]; simp)]
  · subst z
    revert hd
    simp [List.eraseDups_cons]
theorem par3_sw {env : Env} (hk : env.scope.kind = .function) {x y z : Str} {p q r pt : Pos} {kt k2 : Nat} {pt2 : Pos} {a b c : Expr} (hl : (p.line == q.line) = true) (hl2 : (p.line == r.line) = true) (h : parB env.scope [x, y, z] [a, b, c] = true) :
    swappedStores [.Tuple [.Name x p, .Name y q, .Name z r] kt pt] (.Tuple [a, b, c] k2 pt2) env = pure (some [x, y, z]) ∧ (x ≠ y ∧ x ≠ z ∧ y ≠ z) ∧ env.scope.names.lookup x = some .local ∧ env.scope.names.lookup y = some .local ∧ env.scope.names.lookup z = some .local := by
  unfold parB at h
  simp only [Bool.and_eq_true, Bool.not_eq_true', List.all_cons, List.all_nil, Bool.and_true, beq_iff_eq] at h
  obtain ⟨⟨⟨⟨⟨hx, hy, hz⟩, hd⟩, hf⟩, hc⟩, hs⟩ := h
  have hx : env.scope.names.lookup x = some .local := eq_of_beq hx
  have hy : env.scope.names.lookup y = some .local := eq_of_beq hy
  have hz : env.scope.names.lookup z = some .local := eq_of_beq hz
  have hl : p.line = q.line := eq_of_beq hl
  have hl2 : q.line = r.line := hl ▸ eq_of_beq hl2
  refine ⟨?_, ⟨fun e => ?_, fun e => ?_, fun e => ?_⟩, hx, hy, hz⟩
  · unfold swappedStores
    simp only [blk_kind hk, Env.kindOf, hx, hy, hz, List.filterMap_cons, List.filterMap_nil, List.head?_cons, Option.map_some, Option.getD_some, Expr.pos, hl, hl2, beq_self_eq_true, Bool.and_self, if_true, Bool.and_true]
    refine (if_neg (fun h => Bool.false_ne_true h)).trans ?_
    split
    · rename_i h2
      exfalso
      simp only [List.any_cons, List.any_nil, Bool.or_false, Bool.or_eq_false_iff] at hs
      simp only [List.any_cons, List.any_nil, Bool.or_false, Bool.or_eq_true] at h2
      rcases h2 with h2 | h2 | h2
      · cases a <;> first | (exact absurd h2 Bool.false_ne_true) | (exact absurd hs.1 Bool.noConfusion)
      · cases b <;> first | (exact absurd h2 Bool.false_ne_true) | (exact absurd hs.2.1 Bool.noConfusion)
      · cases c <;> first | (exact absurd h2 Bool.false_ne_true) | (exact absurd hs.2.2 Bool.noConfusion)
    · rw [if_neg (by rw [hd]; simp), if_neg (by simp only [List.all_cons, List.all_nil, Bool.and_true]; rw [hf]; simp), if_neg (by simp only [List.all_cons, List.all_nil, Bool.and_true]; rw [hc]; simp)]
  · subst e
    have : ([x, x, z].eraseDups).length ≤ [x, z].length := by
      rw [List.eraseDups_cons]
      simp only [List.filter_cons, beq_self_eq_true, Bool.not_true, if_false]
      by_cases e : z = x
      · subst e; simp [List.eraseDups_cons]
      · simp [List.eraseDups_cons, e]
    rw [hd] at this
    simp at this
  · subst e
    have : ([x, y, x].eraseDups).length ≤ [x, y].length := by
      rw [List.eraseDups_cons]
      by_cases e : y = x
      · subst e; simp [List.eraseDups_cons]
      · simp [List.eraseDups_cons, e]
    rw [hd] at this
    simp at this
  · subst e
    have : ([x, y, y].eraseDups).length ≤ [x, y].length := by
      rw [List.eraseDups_cons]
      by_cases e : y = x
      · subst e; simp [List.eraseDups_cons]
      · simp [List.eraseDups_cons, e]
    rw [hd] at this
    simp at this
end Pm
namespace Pm
open PySem PySem.Spec PyProof.Rows L2
local macro_rules | `(tactic| decreasing_tactic) => `(tactic| first
  | (apply Prod.Lex.left; simp; omega)
  | (simp; omega)
  | (simp_wf; omega))
theorem iff_of {a b : Bool} : (a && b) = true → a = true ∧ b = true := by simp
theorem nodup_ne {N : List Str} {i j : Nat} {x y : Str} (hi : N[i]? = some x) (hj : N[j]? = some y) (h : x ≠ y) : i ≠ j := fun z => by
  subst z; rw [hi] at hj; cases hj; exact h rfl
theorem parC_of {sc : Scope} {xs : List Str} (h : parC sc xs = true) : (∀ x ∈ xs, locB sc x = true) ∧ ∃ x ∈ xs, lclB sc x = false := by
  unfold parC at h
  rw [Bool.and_eq_true] at h
  obtain ⟨x, hx, h2⟩ := List.any_eq_true.mp h.2
  exact ⟨fun x hx => List.all_eq_true.mp h.1 x hx, x, hx, by simpa using h2⟩
section
variable {X : Cx} {g : G} {j : Nat}
theorem pv_of {i : Nat} {x : Str} {p : Pos} (h1 : (X.N[i]? == some x) = true) (h2 : visB X.env.scope x = true) (h3 : noDbg x = true) : PE X (.Name x p) (tVar i) := pe_var (eq_of_beq h1) (vis_of h2) (dbg_of h3).1 (dbg_of h3).2
theorem sub_a {o i : Expr} {pos : Pos} {c : Pm.CE} {sc : Scope} {N : List Str} (h : chkE sc N c i = true) (env : Env) : ∀ v, assign (.Subscript o i pos) env v = (do
      let ov ← holding [v] (eval o env)
      let iv ← holding [v, ov] (eval i env)
      standAt pos
      holding [v, ov, iv] (setItem ov iv v)
      release [v, ov, iv] []) := by
  intro v
  cases i with
  | Slice l u s p => cases c <;> exact absurd h Bool.false_ne_true
  | _ => rfl
theorem aug_a {i : Expr} {c : Pm.CE} {sc : Scope} {N : List Str} (h : chkE sc N c i = true) : ∀ ov iv new, augStore i ov iv new = (do holding [new, ov, iv] (setItem ov iv new); release [new, ov, iv] []; pure .next) := by
  intro ov iv new
  cases i with
  | Slice l u s p => cases c <;> exact absurd h Bool.false_ne_true
  | _ => rfl
variable (G : GoodS X j)
include G
theorem set_ok {i : Nat} {e : Pm.CE} {x : Str} {py pos : Pos} {v : Expr} (C : CallsOk X j (calls e)) (B : GlobsOk X (globs e)) (h1 : (X.N[i]? == some x) = true) (h2 : locB X.env.scope x = true) (h3 : vl e = true) (h4 : chkE X.env.scope X.N e v = true) (h5 : compB v = false) :
    PS X (.Assign [.Name x py] v pos) (LS X.K g (ex (.set i e))) := by
  refine PS.ofSl fun sl => ?_
  by_cases hlc : ∃ elt gs scope p, v = .ListComp elt gs scope p
  · obtain ⟨elt0, gs, scope0, p0, rfl⟩ := hlc
    by_cases hsw : swV X.env.scope x py (.ListComp elt0 gs scope0 p0) = true
    · have he : ∃ a b c d, e = .lc a b c d := by
        cases e <;> first | exact ⟨_, _, _, _, rfl⟩ | exact absurd h4 Bool.false_ne_true
      obtain ⟨elt, tg, it, cond, rfl⟩ := he
      obtain ⟨y, t, it', ifs, scope, p, ev0, q1, q2, q3, q4, q5, q6, q7, q8, q9⟩ := lc_inv h4
      cases ev0
      have ok : BlkOk X.N X.env.scope scope0 (tg.names X.N) := blk_ok q1
      have eb : ∀ (s' : List SV) (s : Shared) (H : Hp) (C' : Addr) (cl : List (Str × Addr)) (fp : List Addr), PE (X.blk s H scope0 (compEnvC scope0 cl C' X.env) fp) elt0 (LE X.K g (ev elt s') s') := fun s' s H C' cl fp =>
        ev_ok g elt _ elt0 s' (G.toGood.blk _ _ _ _ _) C.app.1.app.1 B.app.1.app.1 q6 q7
      have cb : ∀ (s' : List SV) (s : Shared) (H : Hp) (C' : Addr) (cl : List (Str × Addr)) (fp : List Addr), PTs (X.blk s H scope0 (compEnvC scope0 cl C' X.env) fp) ifs (LT X.K g (fun ss => toC (evs cond s' ss)) s') := fun s' s H C' cl fp =>
        evC_ok g cond _ ifs s' (G.toGood.blk _ _ _ _ _) C.app.2 B.app.2 q8 q9
      have hI : PI X t it' (LI X.K g false (fun ss => toI (ev it sl ss)) sl) := evI_ok g false it X t it' sl G.toGood C.app.1.app.2 B.app.1.app.2 (fun z => by cases z) q3 q4
      have hy : X.env.scope.names.lookup x = some .local := by
        unfold swV at hsw
        rw [Bool.and_eq_true, Bool.and_eq_true] at hsw
        exact eq_of_beq hsw.1.1
      have key := ps_setLc (i := i) (py := py) (spos := pos) (g := LG X.K g tg) (pos := p0) (own := tg.names X.N) G.calm G.nd (eq_of_beq h1) hy (by rw [sw_lc G.kind, hsw]) hI ok (fun s H C' cl fp => tg_ok (g := g) (G.toGood.blk s H scope0 (compEnvC scope0 cl C' X.env) fp) (fun x => locB scope0 x) (st_of ok.uniq rfl) tg t q2)
        (fun s H C' cl fp => PTs.ex fun s' => cb s' s H C' cl fp) (fun s H C' cl fp => PE.ex fun s' => eb s' s H C' cl fp) (noset_fold q5)
      rw [names_snd] at key
      refine PS.imp key fun D σ H q => ?_
      have q' := LSs.set (m := fun ss => ev (.lc elt tg it cond) sl ss) q
      exact LE.lc (cn := fun s' ss => toC (evs cond s' ss)) (elt := fun s' ss => ev elt s' ss) (el := fun s' ss => toE (ev elt s' ss)) q' (fun _ => rfl) (fun _ _ => rfl) (fun _ _ _ z => z) (fun s' _ _ _ z => ⟨s', z⟩) (fun s' _ _ _ z => ⟨s', z⟩)
    · refine PS.imp (ps_set G.nd (eq_of_beq h1) (loc_of h2) (ev_ok g e X _ sl G.toGood C B h3 h4) (by rw [sw_lc G.kind]; rw [Bool.not_eq_true] at hsw; rw [hsw]) (.inl (G.fn x))) fun D σ H q => LSs.set q
  · refine PS.imp (ps_set G.nd (eq_of_beq h1) (loc_of h2) (ev_ok g e X v sl G.toGood C B h3 h4) (sw_no h5 fun a b c d z => hlc ⟨a, b, c, d, z⟩) (.inl (G.fn x))) fun D σ H q => LSs.set q
theorem st_loc : ∀ x, locB X.env.scope x = true → Loc X.env.scope x ∧ (X.fn x = true ∨ X.env.scope.names.lookup x = some .local) := fun x h => ⟨loc_of h, .inl (G.fn x)⟩
theorem unp_ok {t : TGt} {e : Pm.CE} {ts : List Expr} {k : Nat} {p pos : Pos} {v : Expr} (C : CallsOk X j (calls e)) (B : GlobsOk X (globs e)) (h0 : tupT t = true) (h1 : chkT (locB X.env.scope) X.N t (.Tuple ts k p) = true) (h3 : vl e = true) (h4 : chkE X.env.scope X.N e v = true) (h5 : noSwB ts v = true) (h6 : compB v = false) :
    PS X (.Assign [.Tuple ts k p] v pos) (LS X.K g (ex (.unp t e))) := by
  refine PS.ofSl fun sl => ?_
  cases t with
  | one i => exact absurd h0 Bool.false_ne_true
  | tup us => exact PS.imp (ps_asg (ev_ok g e X v sl G.toGood C B h3 h4) (tg_ok (g := g) G.toGood (locB X.env.scope) (st_loc G) (.tup us) _ h1) (sw_tup h6) (noSw h5) rfl) fun D σ H q => LSs.unp q
theorem sto_ok {i : Nat} {e k : Pm.CE} {x : Str} {p1 p2 pos : Pos} {v ke : Expr} (C : CallsOk X j (calls k ++ calls e)) (B : GlobsOk X (globs k ++ globs e)) (h1 : (X.N[i]? == some x) = true) (h2 : visB X.env.scope x = true) (h3 : noDbg x = true) (h4 : vl k = true) (h5 : chkE X.env.scope X.N k ke = true) (h6 : vl e = true) (h7 : chkE X.env.scope X.N e v = true) (h8 : compB v = false) :
    PS X (.Assign [.Subscript (.Name x p1) ke p2] v pos) (LS X.K g (ex (.sto i k e))) := by
  refine PS.ofSl fun sl => ?_
  exact PS.imp (ps_asg (ev_ok g e X v sl G.toGood C.app.2 B.app.2 h6 h7) (pg_sub (pv_of h1 h2 h3) (ev_ok g k X ke sl G.toGood C.app.1 B.app.1 h4 h5) set_list (sub_a h5 _)) (sw_subS h8) rfl rfl) fun D σ H q => LSs.sto q
theorem PG.ex {e : Expr} {t : List SV → TG} (h : ∀ s, PG X e (t s)) : PG X e (fun v σ H Q => ∃ s, t s v σ H Q) := ⟨fun pins s σ H v u Q I r ⟨z, q⟩ => (h z).run pins s σ H v u Q I r q⟩
theorem sto2_ok {i l : Nat} {e f k m : Pm.CE} {x y : Str} {p1 p2 p3 p4 p5 p6 pos : Pos} {n1 n2 : Nat} {v w ke me : Expr} (C : CallsOk X j (calls k ++ calls m ++ calls e ++ calls f)) (B : GlobsOk X (globs k ++ globs m ++ globs e ++ globs f))
    (h1 : (X.N[i]? == some x) = true) (h2 : visB X.env.scope x = true) (h3 : noDbg x = true) (h4 : vl k = true) (h5 : chkE X.env.scope X.N k ke = true)
    (g1 : (X.N[l]? == some y) = true) (g2 : visB X.env.scope y = true) (g3 : noDbg y = true) (g4 : vl m = true) (g5 : chkE X.env.scope X.N m me = true)
    (h6 : vl e = true) (h7 : chkE X.env.scope X.N e v = true) (g6 : vl f = true) (g7 : chkE X.env.scope X.N f w = true) :
    PS X (.Assign [.Tuple [.Subscript (.Name x p1) ke p2, .Subscript (.Name y p3) me p4] n1 p5] (.Tuple [v, w] n2 p6) pos) (LS X.K g (ex (.sto2 i k l m e f))) := by
  refine PS.ofSl fun sl => ?_
  refine PS.imp (ps_asg (pe_tup (pa_cons (ev_ok g e X v sl G.toGood C.app.1.app.2 B.app.1.app.2 h6 h7) (pa_cons (ev_ok g f X w sl G.toGood C.app.2 B.app.2 g6 g7) pa_nil (star_cons (chk_star g7))) (star_cons (chk_star h7))))
    (pg_tup (n := 2) G.calm (pgs_cons (pg_sub (pv_of h1 h2 h3) (ev_ok g k X ke sl G.toGood C.app.1.app.1.app.1 B.app.1.app.1.app.1 h4 h5) set_list (sub_a h5 _)) (pgs_cons (PG.ex G fun s => pg_sub (pv_of g1 g2 g3) (ev_ok g m X me s G.toGood C.app.1.app.1.app.2 B.app.1.app.1.app.2 g4 g5) set_list (sub_a g5 _)) pgs_nil rfl) rfl) rfl rfl) rfl (noSw (by rfl)) rfl) fun D σ H q => LSs.sto2 (mk := fun s ss => ev k s ss) (ml := fun s ss => ev m s ss) q
theorem par_ok {js : List Nat} {es : List Pm.CE} {ts vs : List Expr} {n1 n2 : Nat} {p5 p6 pos : Pos} (C : CallsOk X j (callss es)) (B : GlobsOk X (globss es)) (h : chkA X.env.scope X.N es vs = true) (h2 : (match js, ts with
    | [i, j], [.Name x p, .Name y q] => X.N[i]? == some x && X.N[j]? == some y && ((p.line == q.line && parB X.env.scope [x, y] vs) || parC X.env.scope [x, y])
    | [i, j, l], [.Name x p, .Name y q, .Name z r] => X.N[i]? == some x && X.N[j]? == some y && X.N[l]? == some z && ((p.line == q.line && p.line == r.line && parB X.env.scope [x, y, z] vs) || parC X.env.scope [x, y, z])
    | _, _ => false) = true) (hlen : js.length = vs.length) :
    PS X (.Assign [.Tuple ts n1 p5] (.Tuple vs n2 p6) pos) (LS X.K g (ex (.par js es))) := by
  refine PS.ofSl fun sl => ?_
  have one : ∀ {c : Pm.CE} {cs : List Pm.CE} {e : Expr} {rest : List Expr} {t : TA}, chkA X.env.scope X.N (c :: cs) (e :: rest) = true → CallsOk X j (calls c) → GlobsOk X (globs c) → PA X rest t → PA X (e :: rest) (tCons (LE X.K g (ev c sl) sl) t) := by
    intro c cs e rest t h C B r
    have h : (vl c && chkE X.env.scope X.N c e && chkA X.env.scope X.N cs rest) = true := h
    simp only [Bool.and_eq_true] at h
    exact pa_cons (ev_ok g c X e sl G.toGood C B h.1.1 h.1.2) r (star_cons (chk_star h.1.2))
  have rest : ∀ {c : Pm.CE} {cs : List Pm.CE} {e : Expr} {rest : List Expr}, chkA X.env.scope X.N (c :: cs) (e :: rest) = true → chkA X.env.scope X.N cs rest = true := by
    intro c cs e rest h
    have h : (vl c && chkE X.env.scope X.N c e && chkA X.env.scope X.N cs rest) = true := h
    simp only [Bool.and_eq_true] at h
    exact h.2
  split at h2
  · rename_i i l x p y q
    simp only [Bool.and_eq_true, Bool.or_eq_true] at h2
    obtain ⟨⟨a1, a2⟩, a34⟩ := h2
    have hlen : vs.length = 2 := hlen.symm
    match vs, hlen, h, a34 with
    | [v, w], _, h, a34 =>
      match es, h, C, B with
      | [c1, c2], h, C, B =>
        rcases a34 with ⟨a3, a4⟩ | hc
        case inr =>
          obtain ⟨hl1, x0, hx0, hx1⟩ := parC_of hc
          have lx := hl1 x (by simp)
          have ly := hl1 y (by simp)
          refine PS.imp (ps_asg (pe_tup (one h C.app.1 B.app.1 (one (rest h) C.app.2.app.1 B.app.2.app.1 pa_nil))) (pg_tup (n := 2) G.calm (pgs_cons (pg_name G.nd (eq_of_beq a1) (loc_of lx) (.inl (G.fn _))) (pgs_cons (pg_name G.nd (eq_of_beq a2) (loc_of ly) (.inl (G.fn _))) pgs_nil rfl) rfl) rfl rfl) rfl ?_ rfl) fun D σ H q => LSs.par2c q
          simp only [List.mem_cons, List.not_mem_nil, or_false] at hx0
          rcases hx0 with rfl | rfl
          · exact noSwC (q := p) (by simp) hx1
          · exact noSwC (q := q) (by simp) hx1
        obtain ⟨s1, s2, s3, s4⟩ := par2_sw (pt := p5) (kt := n1) (k2 := n2) (pt2 := p6) G.kind a3 a4
        exact PS.imp (ps_par G.calm G.nd (eq_of_beq a1) (eq_of_beq a2) (nodup_ne (eq_of_beq a1) (eq_of_beq a2) s2) s3 s4 (one h C.app.1 B.app.1 (one (rest h) C.app.2.app.1 B.app.2.app.1 pa_nil)) s1 rfl) fun D σ H q => LSs.par2 q
      | [], h, _, _ => exact absurd h Bool.false_ne_true
      | [c1], h, _, _ => exact absurd (rest h) Bool.false_ne_true
      | _ :: _ :: _ :: _, h, _, _ => exact absurd (rest (rest h)) Bool.false_ne_true
  · rename_i i l m x p y q z r
    simp only [Bool.and_eq_true, Bool.or_eq_true] at h2
    obtain ⟨⟨⟨a1, a2⟩, a3⟩, a34⟩ := h2
    have hlen : vs.length = 3 := hlen.symm
    match vs, hlen, h, a34 with
    | [v, w, u], _, h, a34 =>
      match es, h, C, B with
      | [c1, c2, c3], h, C, B =>
        rcases a34 with ⟨⟨a5, a6⟩, a4⟩ | hc
        case inr =>
          obtain ⟨hl1, x0, hx0, hx1⟩ := parC_of hc
          have lx := hl1 x (by simp)
          have ly := hl1 y (by simp)
          have lz := hl1 z (by simp)
          refine PS.imp (ps_asg (pe_tup (one h C.app.1 B.app.1 (one (rest h) C.app.2.app.1 B.app.2.app.1 (one (rest (rest h)) C.app.2.app.2.app.1 B.app.2.app.2.app.1 pa_nil)))) (pg_tup (n := 3) G.calm (pgs_cons (pg_name G.nd (eq_of_beq a1) (loc_of lx) (.inl (G.fn _))) (pgs_cons (pg_name G.nd (eq_of_beq a2) (loc_of ly) (.inl (G.fn _))) (pgs_cons (pg_name G.nd (eq_of_beq a3) (loc_of lz) (.inl (G.fn _))) pgs_nil rfl) rfl) rfl) rfl rfl) rfl ?_ rfl) fun D σ H q => LSs.par3c q
          simp only [List.mem_cons, List.not_mem_nil, or_false] at hx0
          rcases hx0 with rfl | rfl | rfl
          · exact noSwC (q := p) (by simp) hx1
          · exact noSwC (q := q) (by simp) hx1
          · exact noSwC (q := r) (by simp) hx1
        obtain ⟨s1, ⟨s2, s2', s2''⟩, s3, s4, s5⟩ := par3_sw (pt := p5) (kt := n1) (k2 := n2) (pt2 := p6) G.kind a5 a6 a4
        exact PS.imp (ps_par3 G.calm G.nd (eq_of_beq a1) (eq_of_beq a2) (eq_of_beq a3) (nodup_ne (eq_of_beq a1) (eq_of_beq a2) s2) (nodup_ne (eq_of_beq a1) (eq_of_beq a3) s2') (nodup_ne (eq_of_beq a2) (eq_of_beq a3) s2'') s3 s4 s5
          (one h C.app.1 B.app.1 (one (rest h) C.app.2.app.1 B.app.2.app.1 (one (rest (rest h)) C.app.2.app.2.app.1 B.app.2.app.2.app.1 pa_nil))) s1 rfl) fun D σ H q => LSs.par3 q
      | [], h, _, _ => exact absurd h Bool.false_ne_true
      | [c1], h, _, _ => exact absurd (rest h) Bool.false_ne_true
      | [c1, c2], h, _, _ => exact absurd (rest (rest h)) Bool.false_ne_true
      | _ :: _ :: _ :: _ :: _, h, _, _ => exact absurd (rest (rest (rest h))) Bool.false_ne_true
  · cases h2
end
end Pm
namespace Pm
open PySem PySem.Spec PyProof.Rows L2
section
variable {X : Cx} {g : G} {j : Nat} (G : GoodS X j)
include G
theorem aug_ok' {i : Nat} {o : BOp} {p : Operator} {e : Pm.CE} {x : Str} {p1 pos : Pos} {v : Expr} (C : CallsOk X j (calls e)) (B : GlobsOk X (globs e)) (h1 : (X.N[i]? == some x) = true) (h2 : locB X.env.scope x = true) (h3 : (augOp o == p) = true) (h6 : vl e = true) (h7 : chkE X.env.scope X.N e v = true) :
    PS X (.AugAssign (.Name x p1) p v pos) (LS X.K g (ex (.aug i o e))) := by
  obtain rfl : augOp o = p := eq_of_beq h3
  exact PS.ofSl fun sl => PS.imp (ps_aug G.nd (eq_of_beq h1) (loc_of h2) (ev_ok g e X v sl G.toGood C B h6 h7) aug_ok (.inl (G.fn x))) fun D σ H q => LSs.aug q
theorem augs_ok {i : Nat} {o : BOp} {p : Operator} {e k : Pm.CE} {x : Str} {p1 p2 pos : Pos} {v ke : Expr} (C : CallsOk X j (calls k ++ calls e)) (B : GlobsOk X (globs k ++ globs e)) (h1 : (X.N[i]? == some x) = true) (h2 : visB X.env.scope x = true) (h0 : noDbg x = true) (h4 : vl k = true) (h5 : chkE X.env.scope X.N k ke = true) (h3 : (augOp o == p) = true) (h6 : vl e = true) (h7 : chkE X.env.scope X.N e v = true) :
    PS X (.AugAssign (.Subscript (.Name x p1) ke p2) p v pos) (LS X.K g (ex (.augs i k o e))) := by
  obtain rfl : augOp o = p := eq_of_beq h3
  exact PS.ofSl fun sl => PS.imp (ps_augS (pv_of h1 h2 h0) (ev_ok g k X ke sl G.toGood C.app.1 B.app.1 h4 h5) get_list (ev_ok g e X v sl G.toGood C.app.2 B.app.2 h6 h7) aug_ok set_list (aug_a h5)) fun D σ H q => LSs.augs q
theorem app_ok {i : Nat} {e : Pm.CE} {x m : Str} {p1 ap cp pos : Pos} {a : Expr} (C : CallsOk X j (calls e)) (B : GlobsOk X (globs e)) (h1 : (X.N[i]? == some x) = true) (h2 : visB X.env.scope x = true) (h0 : noDbg x = true) (hm : (m == "append") = true) (hl : (ap.endLine == cp.line) = true) (h6 : vl e = true) (h7 : chkE X.env.scope X.N e a = true) :
    PS X (.Expr (.Call (.Attribute (.Name x p1) m ap) [a] [] cp) pos) (LS X.K g (ex (.app i e))) := by
  obtain rfl : m = "append" := eq_of_beq hm
  refine PS.ofSl fun sl => PS.imp (ps_expr (pe_bm PySem.F.plainAttrs_list PySem.F.slot_list_append PySem.F.type_list_append mt_append (pv_of h1 h2 h0) (pa_cons (ev_ok g e X a sl G.toGood C B h6 h7) pa_nil (star_cons (chk_star h7))) rfl (by rw [star_cons (chk_star h7)]; rfl) hl (star_cons (chk_star h7)) rfl) rfl) fun D σ H q => LSs.app q
theorem ext_ok {i : Nat} {e : Pm.CE} {x m : Str} {p1 ap cp pos : Pos} {a : Expr} (C : CallsOk X j (calls e)) (B : GlobsOk X (globs e)) (h1 : (X.N[i]? == some x) = true) (h2 : visB X.env.scope x = true) (h0 : noDbg x = true) (hm : (m == "extend") = true) (hl : (ap.endLine == cp.line) = true) (h6 : vl e = true) (h7 : chkE X.env.scope X.N e a = true) :
    PS X (.Expr (.Call (.Attribute (.Name x p1) m ap) [a] [] cp) pos) (LS X.K g (ex (.ext i e))) := by
  obtain rfl : m = "extend" := eq_of_beq hm
  refine PS.ofSl fun sl => PS.imp (ps_expr (pe_bm PySem.F.plainAttrs_list PySem.F.slot_list_extend PySem.F.type_list_extend mt_extend (pv_of h1 h2 h0) (pa_cons (ev_ok g e X a sl G.toGood C B h6 h7) pa_nil (star_cons (chk_star h7))) rfl (by rw [star_cons (chk_star h7)]; rfl) hl (star_cons (chk_star h7)) rfl) rfl) fun D σ H q => LSs.ext q
theorem pop0_ok {i l : Nat} {k : Pm.CE} {x y m : Str} {p0 p1 ap cp pos : Pos} (h1 : (X.N[l]? == some y) = true) (h2 : locB X.env.scope y = true) (g1 : (X.N[i]? == some x) = true) (g2 : visB X.env.scope x = true) (h0 : noDbg x = true) (hm : (m == "pop") = true) (hl : (ap.endLine == cp.line) = true) (hk : isNop k = true) :
    PS X (.Assign [.Name y p0] (.Call (.Attribute (.Name x p1) m ap) [] [] cp) pos) (LS X.K g (ex (.popS l i k))) := by
  obtain rfl : m = "pop" := eq_of_beq hm
  exact PS.ofSl fun sl => PS.imp (ps_set G.nd (eq_of_beq h1) (loc_of h2) (pe_bm0 PySem.F.plainAttrs_list PySem.F.slot_list_pop PySem.F.type_list_pop mt_pop (pv_of g1 g2 h0) rfl hl) rfl (.inl (G.fn y))) fun D σ H q => LSs.pop0 hk q
theorem popAt_ok {i l : Nat} {k : Pm.CE} {x y m : Str} {p0 p1 ap cp pos : Pos} {a : Expr} (C : CallsOk X j (calls k)) (B : GlobsOk X (globs k)) (h1 : (X.N[l]? == some y) = true) (h2 : locB X.env.scope y = true) (g1 : (X.N[i]? == some x) = true) (g2 : visB X.env.scope x = true) (h0 : noDbg x = true) (hm : (m == "pop") = true) (hl : (ap.endLine == cp.line) = true) (h6 : vl k = true) (h7 : chkE X.env.scope X.N k a = true)
    (hn : isNop k = false) : PS X (.Assign [.Name y p0] (.Call (.Attribute (.Name x p1) m ap) [a] [] cp) pos) (LS X.K g (ex (.popS l i k))) := by
  obtain rfl : m = "pop" := eq_of_beq hm
  exact PS.ofSl fun sl => PS.imp (ps_set G.nd (eq_of_beq h1) (loc_of h2) (pe_bm PySem.F.plainAttrs_list PySem.F.slot_list_pop PySem.F.type_list_pop mt_popAt (pv_of g1 g2 h0) (pa_cons (ev_ok g k X a sl G.toGood C B h6 h7) pa_nil (star_cons (chk_star h7))) rfl (by rw [star_cons (chk_star h7)]; rfl) hl (star_cons (chk_star h7)) rfl) rfl (.inl (G.fn y))) fun D σ H q => LSs.popAt (m := fun ss => ev k sl ss) (by rw [← hn]; exact q)
omit G in
theorem forNx {f : Pm.D → List SV → SS → Option Out} {ds : List Pm.D} {sl : List SV} {ss : SS} : (match forD f ds sl ss with
      | some (Out.nx sl' ss') => some (.nx sl' ss')
      | r => r) = forD f ds sl ss := by
  split
  · rename_i e; rw [e]
  · rfl
omit G in
theorem ex_free {t : TGt} {it : Pm.CE} {body : List CS} {sl : List SV} (h : lockOf it = some []) (ss : SS) :
    ex (.forr t it body) sl ss = (toI (ev it sl ss)).bind fun p => forD (fun d sl' ss => (bindT t d sl').bind fun sl' => keptLocks [] (exs body sl' ss)) p.1 sl p.2 := by
  unfold ex
  rw [h]
  show (toI (ev it sl ss)).bind _ = _
  congr 1
  funext p
  exact forNx
omit G in
theorem ex_un {t : TGt} {it : Pm.CE} {body : List CS} {sl : List SV} {i : Nat} (h : lockOf it = some [i]) (h1 : isOwn sl i = false) (h2 : isLock sl i = false) (ss : SS) :
    ex (.forr t it body) sl ss = (toI (ev it sl ss)).bind fun p => forD (fun d sl' ss => (bindT t d sl').bind fun sl' => keptLocks [] (exs body sl' ss)) p.1 sl p.2 := by
  have es : lockS sl i = sl := by
    unfold lockS
    split
    · rename_i e; unfold isOwn at h1; rw [e] at h1; cases h1
    · rfl
  have ef : [i].filter (isLock sl) = [] := by simp [h2]
  unfold ex
  rw [h]
  show (toI (ev it sl ss)).bind _ = _
  congr 1
  funext p
  show (match forD (fun d sl' ss => (bindT t d sl').bind fun sl' => keptLocks ([i].filter (isLock (lockS sl i))) (exs body sl' ss)) p.1 (lockS sl i) p.2 with
      | some (Out.nx sl' ss') => some (Out.nx (unlockS (isOwn sl i) sl' i) ss')
      | r => r) = _
  rw [es, h1, ef]
  exact forNx
omit G in
theorem ex_lock {t : TGt} {it : Pm.CE} {body : List CS} {sl : List SV} {i : Nat} {ds : List Pm.D} (h : lockOf it = some [i]) (h1 : isLock (lockS sl i) i = true) (ss : SS) (he : toI (ev it sl ss) = some (ds, ss)) :
    ex (.forr t it body) sl ss = (match forD (fun d sl' ss => (bindT t d sl').bind fun sl' => keptLocks [i] (exs body sl' ss)) ds (lockS sl i) ss with
      | some (Out.nx sl' ss') => some (Out.nx (unlockS (isOwn sl i) sl' i) ss')
      | r => r) := by
  have ef : [i].filter (isLock (lockS sl i)) = [i] := by simp [h1]
  unfold ex
  rw [h]
  show (toI (ev it sl ss)).bind _ = _
  rw [he]
  show (match forD (fun d sl' ss => (bindT t d sl').bind fun sl' => keptLocks ([i].filter (isLock (lockS sl i))) (exs body sl' ss)) ds (lockS sl i) ss with
      | some (Out.nx sl' ss') => some (Out.nx (unlockS (isOwn sl i) sl' i) ss')
      | r => r) = _
  rw [ef]
omit G in
theorem lock_cases {it : Pm.CE} {is : List Nat} (h : lockOf it = some is) : (is = [] ∧ noBo it = true) ∨ ∃ i, is = [i] ∧ (it = .loc i ∨ it = .enm (.loc i)) := by
  unfold lockOf at h
  split at h
  · cases h; exact .inr ⟨_, rfl, .inl rfl⟩
  · cases h; exact .inr ⟨_, rfl, .inr rfl⟩
  · split at h
    · cases h; exact .inl ⟨rfl, by assumption⟩
    · cases h
theorem for_ok {t : TGt} {it : Pm.CE} {body : List CS} {tg iter : Expr} {xs : List Stmt} {pos : Pos} (C : CallsOk X j (calls it)) (B : GlobsOk X (globs it)) (h1 : chkT (locB X.env.scope) X.N t tg = true) (h2 : (!enB it || tupB tg) = true) (h3 : chkE X.env.scope X.N it iter = true) (h4 : setB iter = false)
    (hb : PSs X xs (LS X.K g (exs body))) : PS X (.For tg iter xs [] pos) (LS X.K g (ex (.forr t it body))) := by
  refine PS.ofSl fun sl => ?_
  have hg := tg_ok (g := g) G.toGood (locB X.env.scope) (st_loc G) t tg h1
  -- walked without a lock
  have free : (hI : PI X tg iter (LI X.K g true (fun ss => toI (ev it sl ss)) sl)) → (∀ ss, ex (.forr t it body) sl ss = (toI (ev it sl ss)).bind fun p => forD (fun d sl' ss => (bindT t d sl').bind fun sl' => keptLocks [] (exs body sl' ss)) p.1 sl p.2) →
      PS X (.For tg iter xs [] pos) (LSs X g (ex (.forr t it body) sl) sl) := by
    intro hI hev
    refine PS.imp (ps_for G.own G.calm hI hg hb (noset_fold h4)) fun D σ H q => ?_
    refine LSs.for0 (mi := ev it sl) (fun _ _ _ z => z) ?_
    obtain ⟨F, ss, out, e, rp, k⟩ := q
    rw [hev] at e
    exact ⟨F, ss, out, e, rp, k⟩
  cases hl : lockOf it with
  | none =>
    refine PS.imp ps_never fun D σ H q => ?_
    obtain ⟨F, ss, out, e, _⟩ := q
    unfold ex at e
    rw [hl] at e
    cases e
  | some is =>
    rcases lock_cases hl with ⟨rfl, hn⟩ | ⟨i, rfl, hi⟩
    · exact free (evI_ok g true it X tg iter sl G.toGood C B (fun _ => hn) h2 h3) (ex_free hl)
    · by_cases hs : ∃ zs, sl[i]? = some (.own zs) ∨ sl[i]? = some (.lock zs)
      · obtain ⟨zs, hs⟩ := hs
        have hk : isLock (lockS sl i) i = true := by
          have hlen : i < sl.length := hs.elim (fun h => (List.getElem?_eq_some_iff.mp h).1) fun h => (List.getElem?_eq_some_iff.mp h).1
          rcases hs with hs | hs
          · unfold lockS; rw [hs]; unfold isLock; rw [List.getElem?_set_self hlen]
          · unfold lockS; rw [hs]; unfold isLock; rw [hs]
        have hr : ∀ ss, ev (.loc i) sl ss = some (.bo zs, ss) := fun ss => by
          show (getR sl i).map _ = _
          unfold getR
          rcases hs with hs | hs <;> rw [hs] <;> rfl
        rcases hi with rfl | rfl
        · cases iter with
          | Name x p =>
            have h3 : (X.N[i]? == some x && visB X.env.scope x && noDbg x) = true := h3
            simp only [Bool.and_eq_true] at h3
            refine PS.imp (ps_for G.own G.calm (pi_list (pv_of h3.1.1 h3.1.2 h3.2)) hg hb (noset_fold h4)) fun D σ H q => ?_
            refine LSs.for1 (en := false) hs ?_
            obtain ⟨F, ss, out, e, rp, k⟩ := q
            rw [ex_lock (ds := zs) hl hk ss (by show (ev (.loc i) sl ss).f itR = _; rw [hr]; rfl)] at e
            exact ⟨F, ss, out, e, rp, k⟩
          | _ => exact absurd h3 Bool.false_ne_true
        · rcases it_inv (by simp [vl]) h3 with ⟨a, y, q, e', z, _⟩ | ⟨a, b, y, q, e', f', z, _⟩ | ⟨a, q, e', z, rfl, h4', h5, h6⟩
          · cases z
          · cases z
          · cases z
            cases tg <;> first | exact absurd h2 Bool.false_ne_true | skip
            rename_i elts kk tpos
            cases e' with
            | Name x p =>
              have h6 : (X.N[i]? == some x && visB X.env.scope x && noDbg x) = true := h6
              simp only [Bool.and_eq_true] at h6
              have hI := pi_enum (elts := elts) (kk := kk) (tpos := tpos) (p := q.1) (pos := q.2) (gl_of h4') (G.blt "enumerate" (by decide +kernel)) (pa_cons (pv_of (p := p) h6.1.1 h6.1.2 h6.2) pa_nil rfl) rfl
              refine PS.imp (ps_for G.own G.calm hI hg hb (noset_fold h4)) fun D σ H q => ?_
              have key := LSs.for1 (X := X) (g := g) (en := true) (t := t) (mb := exs body) (D := D) (σ := σ) (H := H) hs (by
                obtain ⟨F, ss, out, e, rp, k⟩ := q
                rw [ex_lock (ds := enumD zs) hl hk ss (by show (O.f itR (O.f enD (toD (ev (.loc i) sl ss)))) = _; rw [hr]; rfl)] at e
                exact ⟨F, ss, out, e, rp, k⟩)
              obtain ⟨v, e1, a, e2, ⟨ys, e3⟩, e4⟩ := key
              exact ⟨v, e1, a, ys, by rw [e2], e3, e4⟩
            | _ => exact absurd h6 Bool.false_ne_true
      · have h1' : isOwn sl i = false := by
          unfold isOwn
          split
          · exact absurd ⟨_, .inl ‹_›⟩ hs
          · rfl
        have h2' : isLock sl i = false := by
          unfold isLock
          split
          · exact absurd ⟨_, .inr ‹_›⟩ hs
          · rfl
        have hn : ∀ ss r s, ev (.loc i) sl ss = some (r, s) → isBo r = false := by
          intro ss r s e
          obtain ⟨r', e1, e2⟩ := map_of (show (getR sl i).map (fun r => (r, ss)) = some (r, s) from e)
          cases e2
          obtain ⟨sv, e3, e4⟩ := bind_of e1
          cases sv <;> cases e4 <;> first | rfl | exact (hs ⟨_, .inl e3⟩).elim | exact (hs ⟨_, .inr e3⟩).elim
        refine free ?_ (ex_un hl h1' h2')
        rcases hi with rfl | rfl
        · exact pi_seq (ev_ok g (.loc i) X iter sl G.toGood C B rfl h3) true fun _ => hn
        · rcases it_inv (by simp [vl]) h3 with ⟨a, y, q, e', z, _⟩ | ⟨a, b, y, q, e', f', z, _⟩ | ⟨a, q, e', z, rfl, h4', h5, h6⟩
          · cases z
          · cases z
          · cases z
            cases tg <;> first | exact absurd h2 Bool.false_ne_true | skip
            exact pi_en true (gl_of h4') (G.blt "enumerate" (by decide +kernel)) (ev_ok g (.loc i) X e' sl G.toGood C B rfl h6) (chk_star h6) fun _ => hn
end
end Pm
namespace Pm
open PySem PySem.Spec PyProof.Rows L2
section
variable {K : PySem.W.Frag} {g : G} {F F' : Addr → Prop} {H H' H0 : Hp} {ss ss' : SS} {sl sl' : List SV} {σ σ' : L2.St}
def srcO (C : Addr) (ss : SS) : HO := .dK [(.inr "cells", .ref C), (.inr "left", .int ss.left), (.inr "mixed", .int ss.mixed), (.inr "turn", .int ss.turn)]
theorem SrcOk.dput {A C : Addr} (s : SrcOk A C ss H) {k : SK} {i : Int} (e : ss.put k i = some ss') : DPut H A (.str k.name) (.int i) (L2.upd H A (srcO C ss')) ∧ SrcOk A C ss' (L2.upd H A (srcO C ss')) := by
  have nAC : C ≠ A := fun q => by
    have h1 := s.1
    rw [← q, s.2.1] at h1; cases h1
  have hl : ∀ kvs : List (Key × V), kvs.length = 4 → kvs.length < sizeLine := fun kvs h => by rw [h, SL_eq]; decide
  have fin : (0 ≤ ss'.left ∧ 0 ≤ ss'.turn ∧ ss'.cells = ss.cells) → SrcOk A C ss' (L2.upd H A (srcO C ss')) := fun h =>
    ⟨upd_same, by rw [upd_ne nAC, h.2.2]; exact s.2.1, by rw [h.2.2]; exact s.2.2.1, h.1, by rw [h.2.2]; exact s.2.2.2.2.1, h.2.1⟩
  cases k with
  | left =>
    have e : (if 0 ≤ i then some { ss with left := i } else none) = some ss' := e
    split at e <;> cases e
    exact ⟨DPut.k (k := .inr "left") s.1 (hl _ rfl), fin ⟨‹_›, s.2.2.2.2.2, rfl⟩⟩
  | mixed =>
    cases e
    exact ⟨DPut.k (k := .inr "mixed") s.1 (hl _ rfl), fin ⟨s.2.2.2.1, s.2.2.2.2.2, rfl⟩⟩
  | turn =>
    have e : (if 0 ≤ i then some { ss with turn := i } else none) = some ss' := e
    split at e <;> cases e
    exact ⟨DPut.k (k := .inr "turn") s.1 (hl _ rfl), fin ⟨s.2.2.2.1, ‹_›, rfl⟩⟩
/-- the source changes -/
theorem Rp.srcGr (r : Rp K g F ss sl σ H) {o : HO} (hs : SrcOk g.A g.C ss' (L2.upd H g.A o)) : Gr g F F H (L2.upd H g.A o) := by
  refine ⟨fun a u e n1 _ => by rw [upd_ne n1]; exact e, fun _ h => h, fun _ h => .inl h, fun a f => ?_, r.fC, ss, ss', r.src, hs⟩
  obtain ⟨vs, e⟩ := r.dom a f
  exact ⟨vs, by rw [upd_ne (fun q : a = g.A => by rw [q, r.src.1] at e; cases e)]; exact e⟩
end
section
variable {X : Cx} {g : G} {sl : List SV} {D : Ends} {σ : L2.St} {H : Hp}
theorem LSs.sput {m : SS → O R} {k : SK} {i : Nat} (h : LSs X g (fun ss => (toD (m ss)).bind fun p => match isSrc sl i with
    | true => (sputD p.2 k p.1).map fun s => .nx sl s
    | false => none) sl D σ H) : sDPut (tVar i) (tC (.str k.name)) (LE X.K g m sl) D σ H := by
  obtain ⟨F, ss, out, e, rp, kq⟩ := h
  obtain ⟨⟨d, s1⟩, e1, e⟩ := bind_of e
  have e : (match isSrc sl i with | true => (sputD s1 k d).map fun s => Out.nx sl s | false => none) = some out := e
  split at e
  · rename_i hs
    obtain ⟨s2, e2, rfl⟩ := map_of e
    obtain ⟨r, e5, e6⟩ := O.f_of e1
    refine ⟨F, ss, r, s1, e5, rp, fun x H1 F1 g1 p1 h1 => ⟨_, p1.srcAt hs, ?_⟩⟩
    unfold sputD at e2
    split at e2
    · obtain rfl := (h1.rd e6).int
      obtain ⟨q1, q2⟩ := p1.src.dput e2
      have g2 := p1.srcGr q2
      exact ⟨_, _, rfl, q1, kq.nx (p1.step g2 q2) ((g1.ke rp.fC).trans (g2.ke p1.fC)) ((Lk.gr rp g1).trans (Lk.gr p1 g2))⟩
    · cases e2
  · cases e
theorem LSs.spop {i : Nat} (h : LSs X g (fun ss => match isSrc sl i, ss.cells with
    | true, c :: cs => some (.nx sl { ss with cells := cs, left := c })
    | _, _ => none) sl D σ H) : sDPut (tVar i) (tC (.str "left")) (tBM0 X.K "list" rPop (tDGet (tVar i) (tC (.str "cells")))) D σ H := by
  obtain ⟨F, ss, out, e, rp, kq⟩ := h
  have e : (match isSrc sl i, ss.cells with | true, c :: cs => some (Out.nx sl { ss with cells := cs, left := c }) | _, _ => none) = some out := e
  split at e
  · rename_i c cs hs hc
    cases e
    have nCA : g.C ≠ g.A := fun q => by
      have h1 := rp.src.1
      rw [← q, rp.src.2.1] at h1; cases h1
    have hd : (ss.cells.reverse.map V.int).dropLast = cs.reverse.map V.int := by rw [hc]; simp
    have hlast : (ss.cells.reverse.map V.int)[(ss.cells.reverse.map V.int).length - 1]? = some (.int c) := by rw [hc]; simp
    refine ⟨_, rp.srcAt hs, _, _, rfl, rp.src.getC, .inl ⟨rfl, _, .of rp.src.2.1⟩, _, _, _, rfl, rfl, rp.src.2.1, hlast, ?_⟩
    rw [hd]
    -- the cells, then the number
    have s1 : SrcOk g.A g.C { ss with cells := cs } (L2.upd H g.C (.lst (cs.reverse.map V.int))) :=
      ⟨by rw [upd_ne (Ne.symm nCA)]; exact rp.src.1, upd_same, fun x hx => rp.src.2.2.1 x (by rw [hc]; exact List.mem_cons_of_mem _ hx), rp.src.2.2.2.1, by have := rp.src.2.2.2.2.1; rw [hc] at this; simp at this ⊢; omega, rp.src.2.2.2.2.2⟩
    have g1 : Gr g F F H (L2.upd H g.C (.lst (cs.reverse.map V.int))) := by
      refine ⟨fun a u e _ n2 => by rw [upd_ne n2]; exact e, fun _ h => h, fun _ h => .inl h, fun a f => ?_, rp.fC, ss, _, rp.src, s1⟩
      obtain ⟨vs, e⟩ := rp.dom a f
      exact ⟨vs, by rw [upd_ne (fun q : a = g.C => rp.fC (q ▸ f))]; exact e⟩
    have p1 := rp.step g1 s1
    obtain ⟨q1, q2⟩ := s1.dput (k := .left) (i := c) (ss' := { ss with cells := cs, left := c }) (if_pos (rp.src.2.2.1 c (by rw [hc]; exact List.mem_cons_self)))
    have g2 := p1.srcGr q2
    exact ⟨_, p1.srcAt hs, _, _, rfl, q1, kq.nx (p1.step g2 q2) ((g1.ke rp.fC).trans (g2.ke p1.fC)) ((Lk.gr rp g1).trans (Lk.gr p1 g2))⟩
  · cases e
theorem LSs.appPop {m : SS → O R} {i j : Nat} (h : LSs X g (fun ss => (toD (m ss)).bind fun p => (ownL sl[i]?).bind fun xs => (ownL sl[j]?).bind fun ys => (Pm.popAt false ys p.1).bind fun q =>
      if xs.length < SL ∧ i ≠ j then some (.nx ((sl.set j (.own q.2)).set i (.own (xs ++ [q.1]))) p.2) else none) sl D σ H) :
    tDrop (tBM X.K "list" rAppend (tVar i) (tCons (tBM X.K "list" rPopAt (tVar j) (tCons (LE X.K g m sl) tNil)) tNil)) D σ H := by
  obtain ⟨F, ss, out, e, rp, k⟩ := h
  obtain ⟨⟨kd, s1⟩, e1, e⟩ := bind_of e
  obtain ⟨xs, e2, e⟩ := bind_of e
  obtain ⟨ys, e3, e⟩ := bind_of e
  have e2 := ownL_of e2
  have e3 := ownL_of e3
  obtain ⟨⟨d, zs⟩, e4, e⟩ := bind_of e
  have e : (if xs.length < SL ∧ i ≠ j then some (Out.nx ((sl.set j (.own zs)).set i (.own (xs ++ [d]))) s1) else none) = some out := e
  by_cases hc : xs.length < SL ∧ i ≠ j
  case neg => rw [if_neg hc] at e; cases e
  rw [if_pos hc] at e
  cases e
  obtain ⟨r, a1, b1⟩ := O.f_of e1
  rcases popAt_of e4 with ⟨z, _⟩ | ⟨_, kk, jj, z, e6, e7, rfl, hk1, hk2⟩
  · cases z
  · have z : kd = .int kk := z
    subst z
    obtain ⟨a, vs, ea, ha, _⟩ := rp.ownAt e2
    obtain ⟨b, ws, eb, hb, _⟩ := rp.ownAt e3
    refine ⟨_, ea, .inl ⟨rfl, vs, .of ha⟩, _, eb, .inl ⟨rfl, ws, .of hb⟩, F, ss, r, s1, a1, rp, fun x H1 F1 g1 p1 h1 => ?_⟩
    obtain rfl := (h1.rd b1).int
    obtain ⟨b', ws', eb', hb', hw⟩ := p1.ownAt e3
    rw [eb] at eb'
    cases eb'
    obtain ⟨v, e8, f8⟩ := hw.get e7
    obtain ⟨h1', h2', h3', h4'⟩ := ixN_seq e6
    obtain ⟨w1, w2, w3⟩ := p1.write e3 eb hb' (hw.erase jj)
    have hj : (sl.set j (.own (ys.eraseIdx jj)))[i]? = some (.own xs) := by rw [List.getElem?_set_ne (Ne.symm hc.2)]; exact e2
    obtain ⟨a', vs', ea', ha', hv⟩ := w1.ownAt hj
    rw [ea] at ea'
    cases ea'
    refine ⟨b, ws', kk, jj, v, rfl, rfl, hb', by omega, by omega, by rw [hw.length]; exact h1', e8, ?_⟩
    obtain ⟨u1, u2, u3⟩ := w1.write hj ea ha' (hv.append (.one (f8.keep w2)))
    exact ⟨a, vs', v, rfl, rfl, ha', by rw [hv.length, SL_eq]; exact hc.1, k.nx u1 (((g1.ke rp.fC).trans w2).trans u2) (((Lk.gr rp g1).trans w3).trans u3)⟩
/-- a list that no slot holds is written -/
theorem Rp.other {K : PySem.W.Frag} {F : Addr → Prop} {ss : SS} {a : Addr} {vs ws : List V} (r : Rp K g F ss sl σ H) (hD : H a = some (.lst vs)) (nF : ¬ F a) (nC : a ≠ g.C) (ne : g.He a = none)
    (ns : ∀ (j : Nat) (t : SV) (b : Addr), sl[j]? = some t → t.ow = true → σ[j]? = some (some (.ref b)) → b ≠ a) : Rp K g F ss sl σ (L2.upd H a (.lst ws)) ∧ Ke K F F H (L2.upd H a (.lst ws)) := by
  have nA : a ≠ g.A := fun q => by rw [q, r.src.1] at hD; cases hD
  have ke : Ke K F F H (L2.upd H a (.lst ws)) := by
    refine ⟨fun c us s => ?_, fun c us f e => ⟨f, by rw [upd_ne (fun q : c = a => nF (q ▸ f))]; exact e⟩⟩
    rcases s with (s | ⟨o, s⟩) | s
    · exact .inl (.inl (by rw [upd_ne (fun q : c = a => by rw [q, hD] at s; cases s)]; exact s))
    · exact .inl (.inr ⟨o, by rw [upd_ne (fun q : c = a => by rw [q, hD] at s; cases s)]; exact s⟩)
    · exact .inr s
  refine ⟨⟨r.len, fun j t ej => ?_, r.apart, fun c o q n1 n2 => ?_, r.frz, fun c f => ?_, r.fe, r.fC, r.eS, r.src.upd (Ne.symm nA) (Ne.symm nC)⟩, ke⟩
  · obtain ⟨x, e2, h⟩ := r.slot j t ej
    have na : ∀ {b : Addr}, t.ow = true → x = some (.ref b) → b ≠ a := fun {b} ho q => by
      subst q
      exact ns j t b ej ho e2
    refine ⟨x, e2, ?_⟩
    cases t with
    | un => trivial
    | v d => obtain ⟨v, q, h⟩ := h; exact ⟨v, q, h.keep ke⟩
    | own zs => obtain ⟨b, us, q, k1, k2, k3⟩ := h; exact ⟨b, us, q, by rw [upd_ne (na rfl q)]; exact k1, k2.keep ke, k3⟩
    | lock zs => obtain ⟨b, us, q, k1, k2, k3⟩ := h; exact ⟨b, us, q, by rw [upd_ne (na rfl q)]; exact k1, k2.keep ke, k3⟩
    | dk zs => obtain ⟨b, us, q, k1, k2, k3⟩ := h; exact ⟨b, us, q, by rw [upd_ne (na rfl q)]; exact k1, Paired.mapP k2 fun _ _ z => ⟨z.1, z.2.keep ke⟩, k3⟩
    | dt zs => obtain ⟨b, us, q, k1, k2, k3⟩ := h; exact ⟨b, us, q, by rw [upd_ne (na rfl q)]; exact k1, Paired.mapP k2 fun _ _ z => ⟨z.1, z.2.keep ke⟩, k3⟩
    | src => exact h
  · rw [upd_ne (fun z : c = a => by rw [z, ne] at q; cases q)]
    exact r.ent c o q n1 n2
  · obtain ⟨us, q⟩ := r.dom c f
    exact ⟨us, by rw [upd_ne (fun z : c = a => nF (z ▸ f))]; exact q⟩
/-- the reading of a draw's argument -/
abbrev tLenOf (K : PySem.W.Frag) (r : Nat) : TE := tCB (fun xs H Q => ∃ p ys, xs = [.ref p] ∧ (SqL K H p ys ∨ SqT K H p ys) ∧ Q (.int ys.length) H) (tCons (tVar r) tNil)
theorem LSs.rmix {r s lap np : Nat} {f : Fn} (hnp : ∀ as ss z, f as ss = some z → as.length = np) (h : LSs X g (fun ss => (ownL sl[r]?).bind fun xs => match isSrc sl s with
    | true => if xs.length ≤ SL ∧ lap ≠ r ∧ lap ≠ s then (mixD f xs.length xs ss).map fun p => .rt (.fr p.1) p.2 else none
    | false => none) sl D σ H) :
    tRet (tLc (iRng1 (tCons (tLenOf X.K r) tNil)) (gName lap) (fun _ H Q => Q true H) (tBM X.K "list" rPopAt (tVar r) (tCons (fun σ H Q => (tCons (tVar s) (tCons (tLenOf X.K r) tNil)) σ H fun vs H1 => spF X.K np f vs H1 Q) tNil)) [lap]) D σ H := by
  obtain ⟨F, ss, out, e, rp, k⟩ := h
  obtain ⟨xs, e1, e⟩ := bind_of e
  have e1 := ownL_of e1
  split at e
  case h_2 => cases e
  rename_i hs
  by_cases hc : xs.length ≤ SL ∧ lap ≠ r ∧ lap ≠ s
  case neg => rw [if_neg hc] at e; cases e
  rw [if_pos hc] at e
  obtain ⟨⟨ys, s'⟩, e2, rfl⟩ := map_of e
  obtain ⟨hlen, nr, ns⟩ := hc
  obtain ⟨a, vs, ea, ha, hv⟩ := rp.ownAt e1
  have es := rp.srcAt hs
  have hr : r < sl.length := (List.getElem?_eq_some_iff.mp e1).1
  refine ⟨_, ea, _, _, rfl, .inl (.of ha), (vs.length : Int), rfl, by omega, by rw [hv.length]; have : SL = 16777216 := rfl; omega, fun A hA => ?_⟩
  have own_ne : ∀ (j : Nat) (t : SV) (b : Addr), sl[j]? = some t → t.ow = true → σ[j]? = some (some (.ref b)) → b ≠ A := fun j t b h1 h2 h3 q => by
    subst q
    obtain ⟨o, e⟩ := rp.owned h1 h2 h3
    rw [hA] at e; cases e
  have own_ne' : ∀ (zs : List Pm.D) (j : Nat) (t : SV) (b : Addr), (sl.set r (.own zs))[j]? = some t → t.ow = true → σ[j]? = some (some (.ref b)) → b ≠ A := fun zs j t b h1 h2 h3 => by
    by_cases hj : r = j
    · subst hj; exact own_ne r _ b e1 rfl h3
    · rw [List.getElem?_set_ne hj] at h1; exact own_ne j t b h1 h2 h3
  have neA := own_ne r _ a e1 rfl ea
  have hHe : g.He A = none := by
    cases q : g.He A with
    | none => rfl
    | some o =>
      obtain ⟨n1, n2⟩ := rp.srcNe hA
      rw [rp.ent A o q (Ne.symm n1) (Ne.symm n2)] at hA; cases hA
  have nAC : A ≠ g.C := (rp.srcNe hA).2.symm
  have sset : sl.set r (.own xs) = sl := by
    apply List.ext_getElem?
    intro j
    by_cases hj : r = j
    · subst hj; rw [List.getElem?_set_self hr, e1]
    · rw [List.getElem?_set_ne hj]
  let St (i : Nat) (H' : Hp) : Prop := ∃ F2 t xs2 acc av rest, i ≤ vs.length ∧ Rp X.K g F2 t (sl.set r (.own xs2)) σ H' ∧ H' A = some (.lst av) ∧ FDs X.K F2 H' av acc ∧ ¬ F2 A ∧ acc.length ≤ i ∧ mixD f (vs.length - i) xs2 t = some (rest, s') ∧ acc ++ rest = ys
  have r0 := rp.grUpd (o := .lst []) hA
  refine ⟨fun i m H' => m = vs.length - i ∧ St i H', ⟨_, rfl, F, ss, xs, [], [], ys, Nat.zero_le _, ?_, upd_same, .nil, rp.at.nf hA, Nat.le_refl _, by rw [Nat.sub_zero, hv.length]; exact e2, rfl⟩, ?_⟩
  · rw [sset]
    exact rp.step r0 (rp.src.upd (rp.srcNe hA).1 (rp.srcNe hA).2)
  rintro i m H2 ⟨rfl, F2, t, xs2, acc, av, rest, hi, p2, hav, hacc, nF, hal, hm, hys⟩
  by_cases hlt : i < vs.length
  · refine .inr ⟨by show i < _; simpa using hlt, St (i + 1), fun H' z => ⟨_, by omega, rfl, z⟩, ?_⟩
    rintro x H3 ⟨rfl, _⟩
    refine ⟨?_, ?_⟩
    · show wipe _ [lap] = wipe _ [lap]
      simp [wipe, List.set_set]
    refine iteT ?_
    have σr : ((wipe σ [lap]).set lap (some x))[r]? = some (some (.ref a)) := by
      rw [List.getElem?_set_ne nr]
      show (σ.set lap none)[r]? = _
      rw [List.getElem?_set_ne nr]; exact ea
    have σs : ((wipe σ [lap]).set lap (some x))[s]? = some (some (.ref g.A)) := by
      rw [List.getElem?_set_ne ns]
      show (σ.set lap none)[s]? = _
      rw [List.getElem?_set_ne ns]; exact es
    have hx2 : (sl.set r (.own xs2))[r]? = some (.own xs2) := List.getElem?_set_self hr
    obtain ⟨a2, vs2, ea2, ha2, hv2⟩ := p2.ownAt hx2
    rw [ea] at ea2
    cases ea2
    have en : vs.length - i = (vs.length - (i + 1)) + 1 := by omega
    rw [en] at hm
    unfold mixD at hm
    obtain ⟨⟨z, s1⟩, f1, hm⟩ := bind_of hm
    cases z <;> first | (cases hm; done) | skip
    rename_i d
    obtain ⟨⟨y, zs⟩, f2, hm⟩ := bind_of hm
    obtain ⟨⟨rest', s2⟩, f3, f4⟩ := map_of hm
    cases f4
    refine ⟨_, σr, .inl ⟨rfl, vs2, .of ha2⟩, _, σs, _, σr, _, _, rfl, .inl (.of ha2), (hnp _ _ _ f1).symm ▸ rfl, g, F2, t, _, _, _, f1, rfl, p2.at, .src (.v (by rw [hv2.length]; exact .int _) .nil), fun w H4 F4 g4 s4 h4 => ?_⟩
    have p4 := p2.step g4 s4
    have h4 : FD X.K F4 H4 w d := h4
    rcases popAt_of f2 with ⟨q, _⟩ | ⟨_, kk, jj, rfl, e6, e7, rfl, hk1, hk2⟩
    · cases q
    · cases h4
      obtain ⟨a4, vs4, ea4, ha4, hv4⟩ := p4.ownAt hx2
      rw [ea] at ea4
      cases ea4
      obtain ⟨v, e8, f8⟩ := hv4.get e7
      obtain ⟨h1', h2', h3', h4'⟩ := ixN_seq e6
      obtain ⟨w1, w2, w3⟩ := p4.write hx2 ea ha4 (hv4.erase jj)
      refine ⟨a, vs4, kk, jj, v, rfl, rfl, ha4, by omega, by omega, by rw [hv4.length]; exact h1', e8, av, ?_, ?_, ?_⟩
      · rw [upd_ne (Ne.symm neA)]
        exact g4.keep A _ hav (rp.srcNe hA).1.symm nAC
      · rw [hacc.length, SL_eq]
        have := hv.length
        omega
      · have nF4 : ¬ F4 A := fun q => by
          rcases g4.new A q with q | q
          · exact nF q
          · rw [hav] at q; cases q
        have hav4 : (L2.upd H4 a (.lst (vs4.eraseIdx jj))) A = some (.lst av) := by rw [upd_ne (Ne.symm neA)]; exact g4.keep A _ hav (rp.srcNe hA).1.symm nAC
        rw [List.set_set] at w1
        obtain ⟨u1, u2⟩ := w1.other (ws := av ++ [v]) hav4 nF4 nAC hHe (own_ne' _)
        refine ⟨F4, s1, _, acc ++ [y], av ++ [v], rest', hlt, u1, upd_same, (((hacc.keep (g4.ke p2.fC)).keep w2).append (.one (f8.keep w2))).keep u2, nF4, by rw [List.length_append, List.length_singleton]; omega, f3, by rw [List.append_assoc]; exact hys⟩
  · have ei : i = vs.length := by omega
    subst ei
    rw [Nat.sub_self] at hm
    cases hm
    rw [List.append_nil] at hys
    subst hys
    exact .inl ⟨by show _ ≤ _; simp, k _ H2 F2 p2.entry p2.src ⟨A, av, rfl, hav, hacc, nF, hHe⟩⟩
end
end Pm
namespace Pm
open PySem PySem.Spec PyProof.Rows L2
theorem chkA_len {sc : Scope} {N : List Str} : ∀ {cs : List Pm.CE} {es : List Expr}, chkA sc N cs es = true → cs.length = es.length
  | [], [], _ => rfl
  | [], _ :: _, h => absurd h Bool.false_ne_true
  | _ :: _, [], h => absurd h Bool.false_ne_true
  | c :: cs, e :: es, h => by
    have h : (vl c && chkE sc N c e && chkA sc N cs es) = true := h
    rw [Bool.and_eq_true] at h
    simp [chkA_len h.2]
local macro_rules | `(tactic| decreasing_tactic) => `(tactic| first
  | (simp; omega)
  | (simp_wf; omega)
  | (simp_wf; simp; omega))
theorem LS.none {K : PySem.W.Frag} {g : G} {D : Ends} {σ : L2.St} {H : Hp} {m : List SV → SS → Option Out} (hm : ∀ sl ss, m sl ss = none) (h : LS K g m D σ H) : tNever D σ H := by
  obtain ⟨F, ss, sl, out, e, _⟩ := h
  rw [hm] at e; cases e
theorem rmix_ok {X : Cx} {g : G} {j : Nat} (G : GoodS X j) {r s l : Nat} {fx x y z m f ln x' rg ln' x'' : Str} {F : Fn} {scope : Scope} {as : Int} {p0 p1 p2 p3 p4 p5 p6 p7 p8 p9 p10 ap cp p11 p12 pos pos' : Pos} (C : CallsOk X j [(fx, F)])
    (h0 : (as == 0) = true) (h1 : blkB X.N X.env.scope scope [(X.N.getD l "", l)] = true) (h2 : (X.N[r]? == some x) = true) (h3 : (X.N[s]? == some y) = true) (h4 : (X.N[l]? == some z) = true) (h5 : locB scope z = true) (h6 : visB (relS scope X.env.scope) x = true) (h7 : noDbg x = true) (h8 : visB (relS scope X.env.scope) y = true) (h9 : noDbg y = true)
    (h10 : (m == "pop") = true) (h11 : (ap.endLine == cp.line) = true) (h12 : (f == fx) = true) (h13 : gloB (relS scope X.env.scope) f = true) (h14 : noDbg f = true) (h15 : (ln == "len") = true) (h16 : gloB (relS scope X.env.scope) ln = true) (h17 : (x' == x) = true) (h18 : rangeB X.env.scope rg = true) (h19 : (ln' == "len") = true) (h20 : gloB X.env.scope ln' = true) (h21 : (x'' == x) = true) (h22 : visB X.env.scope x = true) :
    PS X (.Return (some (.ListComp (.Call (.Attribute (.Name x p0) m ap) [.Call (.Name f p1) [.Name y p2, .Call (.Name ln p3) [.Name x' p4] [] p5] [] p6] [] cp) [⟨.Name z p7, .Call (.Name rg p8) [.Call (.Name ln' p9) [.Name x'' p10] [] p11] [] p12, [], as⟩] scope pos)) pos') (LS X.K g (ex (.rmix r s l fx F))) := by
  obtain rfl : as = 0 := eq_of_beq h0
  obtain rfl : m = "pop" := eq_of_beq h10
  obtain rfl : f = fx := eq_of_beq h12
  obtain rfl : ln = "len" := eq_of_beq h15
  obtain rfl : x' = x := eq_of_beq h17
  obtain rfl : ln' = "len" := eq_of_beq h19
  obtain rfl : x'' = x' := eq_of_beq h21
  have h18 : (rg == "range" && gloB X.env.scope "range") = true := h18
  rw [Bool.and_eq_true] at h18
  obtain rfl : rg = "range" := eq_of_beq h18.1
  obtain ⟨k, hk, a, fd, ps, np, Fn, e1, e2, e3, e4, e5⟩ := C _ (List.mem_singleton.mpr rfl)
  have ok : BlkOk X.N X.env.scope scope [(X.N.getD l "", l)] := blk_ok h1
  refine PS.ofSl fun sl => ?_
  have hI := pi_range1 (X := X) (tg := .Name z p7) (p := p8) (pos := p12) (gl_of h18.2) (G.blt "range" (by decide +kernel)) (pa_cons (pe_callB (p := p9) (pos := p11) call_len_seq (gl_of h20) (G.blt "len" (by decide +kernel)) boot_len (pa_cons (pv_of (p := p10) h2 h22 h7) pa_nil)) pa_nil)
  have key := pe_lc (X := X) (elt := (.Call (.Attribute (.Name x'' p0) "pop" ap) [.Call (.Name f p1) [.Name y p2, .Call (.Name "len" p3) [.Name x'' p4] [] p5] [] p6] [] cp)) (pos := pos) (own := [(X.N.getD l "", l)]) G.calm G.nd hI ok
    (g := gName l) (tt := fun _ H Q => Q true H) (te := tBM X.K "list" rPopAt (tVar r) (tCons (fun σ H Q => (tCons (tVar s) (tCons (tLenOf X.K r) tNil)) σ H fun vs H1 => spF X.K np F vs H1 Q) tNil))
    (fun s' H C' cl fp => pg_name G.nd (eq_of_beq h4) (st_of (X := X) (s := s') (H := H) (cenv := compEnvC scope cl C' X.env) (fp := fp) (sc := X.env.scope) ok.uniq rfl z h5).1 (st_of (X := X) (s := s') (H := H) (cenv := compEnvC scope cl C' X.env) (fp := fp) (sc := X.env.scope) ok.uniq rfl z h5).2)
    (fun s' H C' cl fp => pts_nil)
    (fun s' H C' cl fp => by
      have Gb : Good (X.blk s' H scope (compEnvC scope cl C' X.env) fp) j := G.toGood.blk _ _ _ _ _
      refine pe_bm (X := X.blk s' H scope (compEnvC scope cl C' X.env) fp) PySem.F.plainAttrs_list PySem.F.slot_list_pop PySem.F.type_list_pop mt_popAt (pe_var (eq_of_beq h2) (vis_of h6) (dbg_of h7).1 (dbg_of h7).2) (pa_cons ?_ pa_nil) rfl rfl h11 rfl rfl
      exact pe_callG Fn (Gb.room.mono hk) Gb.gu (gl_of (X := X.blk s' H scope (compEnvC scope cl C' X.env) fp) h13) e2 e3 e4 (dbg_of h14).1 (pa_cons (pe_var (eq_of_beq h3) (vis_of h8) (dbg_of h9).1 (dbg_of h9).2)
        (pa_cons (pe_callB call_len_seq (gl_of (X := X.blk s' H scope (compEnvC scope cl C' X.env) fp) h16) (G.blt "len" (by decide +kernel)) boot_len (pa_cons (pe_var (eq_of_beq h2) (vis_of h6) (dbg_of h7).1 (dbg_of h7).2) pa_nil)) pa_nil)) rfl rfl)
    (noset_fold rfl)
  exact PS.imp (ps_ret key) fun D σ H q => LSs.rmix e5 q
mutual
theorem ex_ok {X : Cx} (g : G) {j : Nat} (G : GoodS X j) : ∀ (c : CS) (st : Stmt), CallsOk X j (callsS c) → GlobsOk X (globsS c) → chkS X.env.scope X.N c st = true → PS X st (LS X.K g (ex c))
  | .set i e, st, C, B, h => by
    unfold chkS at h
    split at h <;> first | (cases h; done) | (rename_i heq; cases heq; done) | (rename_i heq; cases heq)
    simp only [Bool.and_eq_true, Bool.not_eq_true'] at h
    exact set_ok G C B h.1.1.1.1 h.1.1.1.2 h.1.1.2 h.1.2 h.2
  | .unp t e, st, C, B, h => by
    unfold chkS at h
    split at h <;> first | (cases h; done) | (rename_i heq; cases heq; done) | (rename_i heq; cases heq)
    simp only [Bool.and_eq_true, Bool.not_eq_true'] at h
    exact unp_ok G C B h.1.1.1.1.1 h.1.1.1.1.2 h.1.1.1.2 h.1.1.2 h.1.2 h.2
  | .par js es, st, C, B, h => by
    unfold chkS at h
    split at h <;> first | (cases h; done) | (rename_i heq; cases heq; done) | (rename_i heq; cases heq)
    rw [Bool.and_eq_true, Bool.and_eq_true] at h
    exact par_ok G C B h.1.1 h.2 (eq_of_beq h.1.2)
  | .sto i k e, st, C, B, h => by
    unfold chkS at h
    split at h <;> first | (cases h; done) | (rename_i heq; cases heq; done) | (rename_i heq; cases heq)
    simp only [Bool.and_eq_true, Bool.not_eq_true'] at h
    exact sto_ok G C B h.1.1.1.1.1.1.1 h.1.1.1.1.1.1.2 h.1.1.1.1.1.2 h.1.1.1.1.2 h.1.1.1.2 h.1.1.2 h.1.2 h.2
  | .dput i k e, st, C, B, h => by
    unfold chkS at h
    split at h <;> first | (cases h; done) | (rename_i heq; cases heq; done) | (rename_i heq; cases heq)
    simp only [Bool.and_eq_true, Bool.not_eq_true'] at h
    obtain ⟨⟨⟨⟨⟨⟨⟨q1, q2⟩, q3⟩, q4⟩, q5⟩, q6⟩, q7⟩, q8⟩ := h
    exact PS.ofSl fun sl => PS.imp (ps_dput (by have := G.toGood.u; omega) (pv_of q1 q2 q3) (ev_ok g k X _ sl G.toGood C.app.1 B.app.1 q4 q5) (ev_ok g e X _ sl G.toGood C.app.2 B.app.2 q6 q7) (sw_sub q8)) fun D σ H q => LSs.dput q
  | .sto2 i k l m e f, st, C, B, h => by
    unfold chkS at h
    split at h <;> first | (cases h; done) | (rename_i heq; cases heq; done) | (rename_i heq; cases heq)
    simp only [Bool.and_eq_true] at h
    obtain ⟨⟨⟨⟨⟨⟨⟨⟨⟨⟨⟨⟨⟨a1, a2⟩, a3⟩, a4⟩, a5⟩, b1⟩, b2⟩, b3⟩, b4⟩, b5⟩, c1⟩, c2⟩, d1⟩, d2⟩ := h
    exact sto2_ok G C B a1 a2 a3 a4 a5 b1 b2 b3 b4 b5 c1 c2 d1 d2
  | .aug i o e, st, C, B, h => by
    unfold chkS at h
    split at h <;> first | (cases h; done) | (rename_i heq; cases heq; done) | (rename_i heq; cases heq)
    simp only [Bool.and_eq_true] at h
    exact aug_ok' G C B h.1.1.1.1 h.1.1.1.2 h.1.1.2 h.1.2 h.2
  | .augs i k o e, st, C, B, h => by
    unfold chkS at h
    split at h <;> first | (cases h; done) | (rename_i heq; cases heq; done) | (rename_i heq; cases heq)
    simp only [Bool.and_eq_true] at h
    exact augs_ok G C B h.1.1.1.1.1.1.1 h.1.1.1.1.1.1.2 h.1.1.1.1.1.2 h.1.1.1.1.2 h.1.1.1.2 h.1.1.2 h.1.2 h.2
  | .app i e, st, C, B, h => by
    unfold chkS at h
    split at h <;> first | (cases h; done) | (rename_i heq; cases heq; done) | (rename_i heq; cases heq)
    simp only [Bool.and_eq_true] at h
    exact app_ok G C B h.1.1.1.1.1.1 h.1.1.1.1.1.2 h.1.1.1.1.2 h.1.1.1.2 h.1.1.2 h.1.2 h.2
  | .ext i e, st, C, B, h => by
    unfold chkS at h
    split at h <;> first | (cases h; done) | (rename_i heq; cases heq; done) | (rename_i heq; cases heq)
    simp only [Bool.and_eq_true] at h
    exact ext_ok G C B h.1.1.1.1.1.1 h.1.1.1.1.1.2 h.1.1.1.1.2 h.1.1.1.2 h.1.1.2 h.1.2 h.2
  | .popS l i k, st, C, B, h => by
    unfold chkS at h
    split at h <;> first | (cases h; done) | (rename_i heq; cases heq; done) | (rename_i heq; cases heq)
    rw [Bool.and_eq_true, Bool.and_eq_true, Bool.and_eq_true, Bool.and_eq_true, Bool.and_eq_true, Bool.and_eq_true, Bool.and_eq_true] at h
    obtain ⟨⟨⟨⟨⟨⟨⟨a1, a2⟩, a3⟩, a4⟩, a5⟩, a6⟩, a7⟩, h⟩ := h
    split at h
    · exact pop0_ok G a1 a2 a3 a4 a5 a6 a7 h
    · simp only [Bool.and_eq_true, Bool.not_eq_true'] at h
      exact popAt_ok G C B a1 a2 a3 a4 a5 a6 a7 h.1.2 h.2 h.1.1
    · cases h
  | .exp e, st, C, B, h => by
    unfold chkS at h
    split at h <;> first | (cases h; done) | (rename_i heq; cases heq; done) | (rename_i heq; cases heq)
    · refine PS.imp ps_doc fun D σ H q => ?_
      obtain ⟨F, ss, sl, out, e, rp, k⟩ := q
      cases e
      exact k.nx rp .refl .refl
    · rw [Bool.and_eq_true, Bool.and_eq_true, Bool.and_eq_true] at h
      obtain ⟨⟨⟨a1, a2⟩, a3⟩, a4⟩ := h
      refine PS.ofSl fun sl => PS.imp (ps_expr (ev_ok g e X _ sl G.toGood C B a1 a2) (sw_no (by simpa using a3) fun a b c d z => ?_)) fun D σ H q => LSs.exp q
      subst z; exact absurd a4 Bool.false_ne_true
  | .ite c a b, st, C, B, h => by
    unfold chkS at h
    split at h <;> first | (cases h; done) | (rename_i heq; cases heq; done) | (rename_i heq; cases heq)
    simp only [Bool.and_eq_true] at h
    exact PS.ofSl fun sl => PS.imp (ps_if (evT_ok g c X _ sl G.toGood C.app.1.app.1 B.app.1.app.1 h.1.1.1 h.1.1.2) (exs_ok g G a _ C.app.1.app.2 B.app.1.app.2 h.1.2) (exs_ok g G b _ C.app.2 B.app.2 h.2)) fun D σ H q => LSs.ite q
  | .forr t it body, st, C, B, h => by
    unfold chkS at h
    split at h <;> first | (cases h; done) | (rename_i heq; cases heq; done) | (rename_i heq; cases heq)
    rw [Bool.and_eq_true, Bool.and_eq_true, Bool.and_eq_true, Bool.and_eq_true, Bool.and_eq_true] at h
    obtain ⟨⟨⟨⟨⟨a1, a2⟩, a3⟩, a4⟩, a5⟩, a6⟩ := h
    exact for_ok G C.app.1 B.app.1 a1 a2 a3 (by simpa using a4) (exs_ok g G body _ C.app.2 B.app.2 a6)
  | .whl c body, st, C, B, h => by
    unfold chkS at h
    split at h <;> first | (cases h; done) | (rename_i heq; cases heq; done) | (rename_i heq; cases heq)
    simp only [Bool.and_eq_true] at h
    exact PS.ofSl fun sl => PS.imp (ps_while G.own (pt_x fun sl => evT_ok g c X _ sl G.toGood C.app.1 B.app.1 h.1.1 h.1.2) (exs_ok g G body _ C.app.2 B.app.2 h.2)) fun D σ H q => LSs.whl q
  | .ret e, st, C, B, h => by
    unfold chkS at h
    split at h <;> first | (cases h; done) | (rename_i heq; cases heq; done) | (rename_i heq; cases heq)
    simp only [Bool.and_eq_true] at h
    exact PS.ofSl fun sl => PS.imp (ps_ret (ev_ok g e X _ sl G.toGood C B h.1 h.2)) fun D σ H q => LSs.ret q
  | .retn, st, C, B, h => by
    unfold chkS at h
    split at h <;> first | (cases h; done) | (rename_i heq; cases heq; done) | (rename_i heq; cases heq)
    exact PS.ofSl fun sl => PS.imp ps_retN fun D σ H q => LSs.retn q
  | .never, st, C, B, h => PS.imp ps_never fun D σ H q => LS.none (fun _ _ => rfl) q
  | .sput k i e, st, C, B, h => by
    unfold chkS at h
    split at h <;> first | (cases h; done) | (rename_i heq; cases heq; done) | (rename_i heq; cases heq)
    simp only [Bool.and_eq_true, Bool.not_eq_true'] at h
    obtain ⟨⟨⟨⟨⟨⟨q1, q2⟩, q3⟩, q4⟩, q5⟩, q6⟩, q7⟩ := h
    obtain rfl := eq_of_beq q4
    exact PS.ofSl fun sl => PS.imp (ps_dput (by have := G.toGood.u; omega) (pv_of q1 q2 q3) pe_str (ev_ok g e X _ sl G.toGood C B q5 q6) (sw_sub q7)) fun D σ H q => LSs.sput q
  | .spop i, st, C, B, h => by
    unfold chkS at h
    split at h <;> first | (cases h; done) | (rename_i heq; cases heq; done) | (rename_i heq; cases heq)
    simp only [Bool.and_eq_true] at h
    obtain ⟨⟨⟨⟨⟨⟨⟨q1, q2⟩, q3⟩, q4⟩, q5⟩, q6⟩, q7⟩, q8⟩ := h
    obtain rfl := eq_of_beq q4
    obtain rfl := eq_of_beq q5
    obtain rfl := eq_of_beq q6
    obtain rfl := eq_of_beq q7
    exact PS.ofSl fun sl => PS.imp (ps_dput (by have := G.toGood.u; omega) (pv_of q1 q2 q3) pe_str (pe_bm0 PySem.F.plainAttrs_list PySem.F.slot_list_pop PySem.F.type_list_pop mt_pop (pe_dget (by have := G.toGood.u; omega) (pv_of q1 q2 q3) pe_str (fun _ _ => rfl)) rfl q8) rfl) fun D σ H q => LSs.spop q
  | .appPop i l e, st, C, B, h => by
    unfold chkS at h
    split at h <;> first | (cases h; done) | (rename_i heq; cases heq; done) | (rename_i heq; cases heq)
    simp only [Bool.and_eq_true] at h
    obtain ⟨⟨⟨⟨⟨⟨⟨⟨⟨⟨⟨a1, a2⟩, a3⟩, a4⟩, a5⟩, b1⟩, b2⟩, b3⟩, b4⟩, b5⟩, c1⟩, c2⟩ := h
    obtain rfl := eq_of_beq a4
    obtain rfl := eq_of_beq b4
    exact PS.ofSl fun sl => PS.imp (ps_expr (pe_bm PySem.F.plainAttrs_list PySem.F.slot_list_append PySem.F.type_list_append mt_append (pv_of a1 a2 a3) (pa_cons
      (pe_bm PySem.F.plainAttrs_list PySem.F.slot_list_pop PySem.F.type_list_pop mt_popAt (pv_of b1 b2 b3) (pa_cons (ev_ok g e X _ sl G.toGood C B c1 c2) pa_nil (star_cons (chk_star c2))) rfl (by rw [star_cons (chk_star c2)]; rfl) b5 (star_cons (chk_star c2)) rfl)
      pa_nil) rfl rfl a5 rfl rfl) rfl) fun D σ H q => LSs.appPop q
  | .rmix r s l fx f, st, C, B, h => by
    unfold chkS at h
    split at h <;> first | (cases h; done) | (rename_i heq; cases heq; done) | (rename_i heq; cases heq)
    simp only [Bool.and_eq_true] at h
    obtain ⟨⟨⟨⟨⟨⟨⟨⟨⟨⟨⟨⟨⟨⟨⟨⟨⟨⟨⟨⟨⟨⟨h0, h1⟩, h2⟩, h3⟩, h4⟩, h5⟩, h6⟩, h7⟩, h8⟩, h9⟩, h10⟩, h11⟩, h12⟩, h13⟩, h14⟩, h15⟩, h16⟩, h17⟩, h18⟩, h19⟩, h20⟩, h21⟩, h22⟩ := h
    exact rmix_ok G C h0 h1 h2 h3 h4 h5 h6 h7 h8 h9 h10 h11 h12 h13 h14 h15 h16 h17 h18 h19 h20 h21 h22
  | .frz i, st, C, B, h => by
    unfold chkS at h
    cases h
  | .kill js, st, C, B, h => by
    unfold chkS at h
    cases h
termination_by c => sizeOf c
theorem exs_ok {X : Cx} (g : G) {j : Nat} (G : GoodS X j) : ∀ (cs : List CS) (sts : List Stmt), CallsOk X j (callsSs cs) → GlobsOk X (globsSs cs) → chkSs X.env.scope X.N cs sts = true → PSs X sts (LS X.K g (exs cs))
  | [], sts, C, B, h => by
    cases sts with
    | nil =>
      refine PSs.imp pss_nil fun D σ H q => ?_
      obtain ⟨F, ss, sl, out, e, rp, k⟩ := q
      cases e
      exact k.nx rp .refl .refl
    | cons s ss => exact absurd h Bool.false_ne_true
  | c :: cs, sts, C, B, h => by
    by_cases hf : ∃ i, c = .frz i
    · obtain ⟨i, rfl⟩ := hf
      refine PSs.imp (exs_ok g G cs sts C.app.2 B.app.2 h) fun D σ H q => ?_
      obtain ⟨F, ss, sl, out, e, rp, k⟩ := q
      obtain ⟨F', p1, k1, l1⟩ := rp.freeze (i := i)
      exact ⟨F', ss, frzS sl i, out, e, p1, k.trans k1 l1⟩
    · by_cases hk : ∃ js, c = .kill js
      · obtain ⟨js, rfl⟩ := hk
        refine PSs.imp (exs_ok g G cs sts C.app.2 B.app.2 h) fun D σ H q => ?_
        obtain ⟨F, ss, sl, out, e, rp, k⟩ := q
        exact ⟨F, ss, killS js sl, out, e, rp.kill0 js, k.trans .refl Lk.kill⟩
      · cases sts with
        | nil =>
          unfold chkSs at h
          split at h
          · cases ‹c :: cs = []›
          · exact absurd ⟨_, (List.cons.inj ‹_›).1⟩ hf
          · exact absurd ⟨_, (List.cons.inj ‹_›).1⟩ hk
          · cases ‹[] = _ :: _›
          · cases h
        | cons s ss =>
          have h' : (chkS X.env.scope X.N c s && chkSs X.env.scope X.N cs ss) = true := by
            unfold chkSs at h
            split at h
            · cases ‹c :: cs = []›
            · exact absurd ⟨_, (List.cons.inj ‹_›).1⟩ hf
            · exact absurd ⟨_, (List.cons.inj ‹_›).1⟩ hk
            · rename_i e1 e2
              cases e1; cases e2; exact h
            · cases h
          rw [Bool.and_eq_true] at h'
          exact PSs.imp (pss_cons (ex_ok g G c s C.app.1 B.app.1 h'.1) (exs_ok g G cs ss C.app.2 B.app.2 h'.2)) fun D σ H q => LS.seq q
termination_by cs => sizeOf cs
end
end Pm
namespace Pm
open PySem PySem.Spec PyProof.Rows L2
theorem Gr.ghost {g g' : G} {F F' : Addr → Prop} {H H' : Hp} (h : Gr g F F' H H') (hA : g'.A = g.A) (hC : g'.C = g.C) : Gr g' F F' H H' := by
  obtain ⟨a, c, he, fe⟩ := g'
  obtain ⟨a', c', he', fe'⟩ := g
  obtain rfl : a = a' := hA
  obtain rfl : c = c' := hC
  exact ⟨h.keep, h.sub, h.new, h.dom, h.fC, h.src⟩
theorem start_rp {K : PySem.W.Frag} {g : G} {F : Addr → Prop} {ss : SS} {H : Hp} (a : At K g F ss H) : ∀ {as : List AV} {vs : List V} {n : Nat}, AsOk K g F H as vs →
    Rp K ⟨g.A, g.C, H, F⟩ F ss (as.map AV.sv ++ List.replicate n .un) (vs.map some ++ List.replicate n none) H := by
  intro as vs n h
  have noown : ∀ (i : Nat) (s : SV), (as.map AV.sv ++ List.replicate n .un)[i]? = some s → s.ow = false := by
    intro i s e
    have hm := List.mem_of_getElem? e
    rcases List.mem_append.mp hm with hm | hm
    · obtain ⟨x, _, rfl⟩ := List.mem_map.mp hm
      cases x <;> rfl
    · rw [(List.mem_replicate.mp hm).2]; rfl
  refine ⟨by simp [h.length], ?_, fun i j s t b _ e1 _ e2 => ?_, fun _ _ e _ _ => e, fun a f => .inl f, a.dom, fun _ f => f, a.fC, ⟨ss, a.src⟩, a.src⟩
  · induction h with
    | nil =>
      intro i s e
      simp only [List.map_nil, List.nil_append] at e ⊢
      have hi : i < n := by have := (List.getElem?_eq_some_iff.mp e).1; simpa using this
      rw [List.getElem?_replicate, if_pos hi] at e ⊢
      cases e
      exact ⟨none, rfl, trivial⟩
    | v hd tl ih =>
      intro i s e
      cases i with
      | zero => simp at e; subst e; exact ⟨_, rfl, _, rfl, hd⟩
      | succ i =>
        simp at e ⊢
        exact ih (by
          intro i s e
          exact noown (i + 1) s (by simpa using e)) i s (by simpa using e)
    | src tl ih =>
      intro i s e
      cases i with
      | zero => simp at e; subst e; exact ⟨_, rfl, rfl⟩
      | succ i =>
        simp at e ⊢
        exact ih (by
          intro i s e
          exact noown (i + 1) s (by simpa using e)) i s (by simpa using e)
  · rw [noown i s e1] at e2; cases e2
theorem RR.ghost {K : PySem.W.Frag} {g g' : G} {F : Addr → Prop} {H H' : Hp} {r : R} {x : V} (hA : g'.A = g.A) (ho : isOut r = true) (h : RR K g F H H' r x) : RR K g' F H H' r x := by
  cases r with
  | v d => exact h
  | fr xs => exact h
  | src => exact (show x = _ from h).trans (by rw [hA])
  | _ => cases ho
/-- a def by its checked body -/
theorem callOk_of {P : Program} {w : World} {K : PySem.W.Frag} {mg : Str → Option Value} {base : Heap} {k : Nat} {x : Str} {f : Addr} {name qual : Str} {params : Arguments} {body : List Stmt} {scope : Scope} {dV kV doc pm cdv ct oc : Value} {an od : Option Addr}
    {osl : Array (Option Value)} {N ps : List Str} {cs : List CS} {np : Nat} (lk : K.lookup f = some ⟨oc, od, .func (PySem.W.fnOf name qual params body scope dV kV doc pm an cdv ct), osl⟩) (hcd : PySem.W.codeIn K cdv qual = true) (S : FnScope N ps scope)
    (hx : mg x = some (.ref f)) (hk : PySem.W.keepIn K (.ref f) = true) (hb : Binds K (PySem.W.fnOf name qual params body scope dV kV doc pm an cdv ct) ps []) (hnp : np = ps.length) (blt : ∀ y ∈ bltNames, mg y = none)
    (C : ∀ p ∈ callsSs cs, ∃ i, i ≤ k ∧ CallOk P w K mg base i p.1 p.2) (B : ∀ p ∈ globsSs cs, GlobOk K mg p.1 p.2) (chk : chkSs scope N cs body = true) :
    CallOk P w K mg base (k + 1) x (runF np N.length cs) := by
  subst hnp
  refine ⟨f, _, ps, ps.length, fnG_of lk hcd S (fun vs H Q h => h.1) (fun A outer s H vs Q hr hg h => ?_), rfl, hx, hk, hb, fun as ss r e => ?_⟩
  · obtain ⟨hl, g, F, ss, as, r, ss', e, ho, hat, has, kq⟩ := h
    have G : GoodS (cxOf CX0 P w K mg base N qual scope f cdv A outer s H E0) k := { nd := S.nd, calm := rfl, room := hr, gu := hg, blt := blt, own := L2.passes_of rfl, fn := fun _ => rfl, kind := S.kind }
    refine ⟨_, exs_ok ⟨g.A, g.C, H, F⟩ G cs body C B chk, ?_⟩
    have hal : as.length = ps.length := has.length.trans hl
    unfold runF at e
    rw [if_pos hal] at e
    have rp := start_rp (n := N.length - ps.length) hat has
    have es : L2.start N vs = vs.map some ++ List.replicate (N.length - ps.length) none := by unfold L2.start; rw [hl]
    rw [es]
    cases q : exs cs (as.map AV.sv ++ List.replicate (N.length - ps.length) .un) ss with
    | none => rw [q] at e; cases e
    | some out =>
      rw [q] at e
      refine ⟨F, ss, _, out, q, rp, ?_⟩
      cases out with
      | nx sl1 s1 =>
        cases e
        exact fun σ' H' F' r1 _ _ => kq .non H' F' (r1.entry.ghost rfl rfl) r1.src .non
      | rt r1 s1 =>
        cases e
        exact fun z H' F' g1 s1 h1 => kq z H' F' (g1.ghost rfl rfl) s1 (RR.ghost (K := K) (g := ⟨g.A, g.C, H, F⟩) (g' := g) rfl ho h1)
  · unfold runF at e
    split at e
    · assumption
    · cases e
end Pm
namespace Pm
open PySem PySem.Spec PyProof.Rows L2
/-- whatever the ghost -/
theorem LS.all {X : Cx} {sts : List Stmt} {m : List SV → SS → Option Out} (h : ∀ g, PSs X sts (LS X.K g m)) : PSs X sts (fun D σ H => ∃ g, LS X.K g m D σ H) := ⟨fun pins s σ H D I q => by
  obtain ⟨g, q⟩ := q
  exact (h g).run pins s σ H D I q⟩
end Pm
namespace Pm
open PySem PySem.Spec PyProof.Rows L2
def srcN : List Str := ["script", "mixed", "cell"]
/-- the def that makes the source of draws -/
def chkSrc (sc : Scope) : List Stmt → Bool
  | [.Assign [.Name m1 _] (.Constant (.int _) _ _) _,
     .For (.Name c1 _) (.Name s1 _) [.Assign [.Name m2 _] (.BinOp (.Call (.Name it _) [.BinOp (.BinOp (.BinOp (.Name m3 _) mul1 (.Constant (.int k1) _ _) _) add1 (.BinOp (.Name c2 _) mul2 (.Constant (.int k2) _ _) _) _) add2 (.Constant (.int _) _ _) _] [] _) md (.Constant (.int k3) _ _) _) _] [] _,
     .Return (some (.Dict [some (.Constant (.str a) _ _), some (.Constant (.str b) _ _), some (.Constant (.str c) _ _), some (.Constant (.str d) _ _)]
       [.Subscript (.ListComp (.Call (.Name ab _) [.Name c3 _] [] _) [⟨.Name c4 _, .Name s2 _, [], as⟩] scope _) sl _, .Constant (.int l0) _ _, .Name m4 _, .Constant (.int t0) _ _] _)) _] =>
      ((m1 == "mixed") && (c1 == "cell") && (s1 == "script") && (m2 == "mixed") && (it == "int") && (m3 == "mixed") && (mul1 == .Mult) && (add1 == .Add)) && ((c2 == "cell") && (mul2 == .Mult) && (add2 == .Add) && (md == .Mod)) &&
      ((a == "cells") && (b == "left") && (c == "mixed") && (d == "turn") && (ab == "abs") && (c3 == "cell") && (c4 == "cell") && (s2 == "script")) && ((as == 0) && (m4 == "mixed") && revB sl && decide (0 ≤ l0) && decide (0 ≤ t0) &&
      decide (k1.natAbs < 1000000) && decide (k2.natAbs < 1000000) && decide (0 < k3)) &&
      (visB sc "script" && locB sc "mixed" && locB sc "cell" && gloB sc "int" && blkB srcN sc scope [("cell", 2)] && locB scope "cell" && gloB (relS scope sc) "abs" && visB (relS scope sc) "cell")
  | _ => false
/-- what it does -/
def spSrc (K : PySem.W.Frag) : SpG := fun vs H Q => ∃ (a : Addr) (ns : List Int), vs = [.ref a] ∧ SqL K H a (ns.map V.int) ∧ ns.length ≤ 1000 ∧ ∀ A C H' ss, (∀ b o, H b = some o → H' b = some o) → SrcOk A C ss H' → Q (.ref A) H'
theorem upd_upd {H : Hp} {a : Addr} {x y : HO} : L2.upd (L2.upd H a x) a y = L2.upd H a y := by
  funext b
  by_cases h : b = a
  · subst h; rw [upd_same, upd_same]
  · rw [upd_ne h, upd_ne h, upd_ne h]
theorem SqL.keepU {K : PySem.W.Frag} {H H' : Hp} {a : Addr} {xs : List V} (h : SqL K H a xs) (k : ∀ b o, H b = some o → H' b = some o) : SqL K H' a xs := by
  rcases h with (h | ⟨o, h⟩) | h
  · exact .inl (.inl (k _ _ h))
  · exact .inl (.inr ⟨o, k _ _ h⟩)
  · exact .inr h
theorem keepNew {H : Hp} {p : Addr} {x : HO} (hp : H p = none) : ∀ b o, H b = some o → L2.upd H p x b = some o := fun b o e => by rw [upd_ne (ne_of_none e hp)]; exact e
theorem revB_inv {e : Expr} (h : revB e = true) : ∃ k p1 p2 p3, e = .Slice none none (some (.UnaryOp .USub (.Constant (.int 1) k p1) p2)) p3 := by
  unfold revB at h
  split at h
  · exact ⟨_, _, _, _, rfl⟩
  · cases h
/-- the numbers' reading -/
def sRd (a : Addr) (m c : Int) : TE := fun σ H Q => σ[1]? = some (some (.int m)) ∧ σ[2]? = some (some (.int c)) ∧ ∀ i, Q (.int i) H
def absL (ns : List Int) : List Int := ns.map fun i => if i < 0 then -i else i
theorem src_walk {X : Cx} {j : Nat} (G : GoodS X j) (hN : X.N = srcN) {body : List Stmt} (h : chkSrc X.env.scope body = true) {H : Hp} {a : Addr} {ns : List Int} {Q : VK} (hs : SqL X.K H a (ns.map V.int)) (hl : ns.length ≤ 1000)
    (hQ : ∀ A C H' ss, (∀ b o, H b = some o → H' b = some o) → SrcOk A C ss H' → Q (.ref A) H') : ∃ t, PSs X body t ∧ t { nx := fun _ H' => Q .non H', rt := Q } [some (.ref a), none, none] H := by
  unfold chkSrc at h
  split at h
  case h_2 => cases h
  simp only [Bool.and_eq_true, decide_eq_true_eq] at h
  obtain ⟨⟨⟨⟨⟨⟨⟨⟨⟨⟨⟨a1, a2⟩, a3⟩, a4⟩, a5⟩, a6⟩, a7⟩, a8⟩, ⟨⟨b1, b2⟩, b3⟩, b4⟩, ⟨⟨⟨⟨⟨⟨c1, c2⟩, c3⟩, c4⟩, c5⟩, c6⟩, c7⟩, c8⟩, ⟨⟨⟨⟨⟨⟨d1, d2⟩, d3⟩, d4⟩, d5⟩, d6⟩, d7⟩, d8⟩, ⟨⟨⟨⟨⟨⟨e1, e2⟩, e3⟩, e4⟩, e5⟩, e6⟩, e7⟩, e8⟩ := h
  obtain rfl := eq_of_beq a1
  obtain rfl := eq_of_beq a2
  obtain rfl := eq_of_beq a3
  obtain rfl := eq_of_beq a4
  obtain rfl := eq_of_beq a5
  obtain rfl := eq_of_beq a6
  obtain rfl := eq_of_beq a7
  obtain rfl := eq_of_beq a8
  obtain rfl := eq_of_beq b1
  obtain rfl := eq_of_beq b2
  obtain rfl := eq_of_beq b3
  obtain rfl := eq_of_beq b4
  obtain rfl := eq_of_beq c1
  obtain rfl := eq_of_beq c2
  obtain rfl := eq_of_beq c3
  obtain rfl := eq_of_beq c4
  obtain rfl := eq_of_beq c5
  obtain rfl := eq_of_beq c6
  obtain rfl := eq_of_beq c7
  obtain rfl := eq_of_beq c8
  obtain rfl := eq_of_beq d1
  obtain rfl := eq_of_beq d2
  have n0 : X.N[0]? = some ("script" : Str) := by rw [hN]; rfl
  have n1 : X.N[1]? = some ("mixed" : Str) := by rw [hN]; rfl
  have n2 : X.N[2]? = some ("cell" : Str) := by rw [hN]; rfl
  have vS : ∀ {p}, PE X (.Name "script" p) (tVar 0) := fun {p} => pe_var n0 (vis_of e1) (by decide) (by decide)
  have vM : ∀ {p}, PE X (.Name "mixed" p) (tVar 1) := fun {p} => pe_var n1 (by rcases loc_of e2 with h | h; exact .inl h; exact .inr (.inl h)) (by decide) (by decide)
  have vC : ∀ {p}, PE X (.Name "cell" p) (tVar 2) := fun {p} => pe_var n2 (by rcases loc_of e3 with h | h; exact .inl h; exact .inr (.inl h)) (by decide) (by decide)
  have lM : Loc X.env.scope "mixed" := loc_of e2
  have lC : Loc X.env.scope "cell" := loc_of e3
  obtain ⟨kk, q1, q2, q3, rfl⟩ := revB_inv d3
  have vB : ∀ (scope : Scope) (hb : visB (relS scope X.env.scope) "cell" = true) (s : Shared) (H : Hp) (C : Addr) (cl : List (Str × Addr)) (fp : List Addr) {p : Pos}, PE (X.blk s H scope (compEnvC scope cl C X.env) fp) (.Name "cell" p) (tVar 2) := fun scope hb s H C cl fp {p} =>
    pe_var n2 (vis_of hb) (by decide) (by decide)
  refine ⟨_, pss_cons (ps_set G.nd n1 lM pe_int rfl (.inl (G.fn _))) (pss_cons (ps_for G.own G.calm (pi_list vS) (pg_name G.nd n2 lC (.inl (G.fn _)))
    (pss_one (ps_set G.nd n1 lM (pe_op op_mod (pe_callTy call_int1 (gl_of e4) (G.blt "int" (by decide +kernel)) boot_int (pa_cons (pe_op op_add (pe_op op_add (pe_op op_mul vM pe_int) (pe_op op_mul vC pe_int)) pe_int) pa_nil)) pe_int) rfl (.inl (G.fn _)))))
    (pss_one (ps_ret (pe_disp (pps_cons pe_str (pe_revL (pe_lc (own := [("cell", 2)]) (g := gName 2) G.calm G.nd (pi_list vS) (by rw [hN]; exact blk_ok e5)
        (fun s' H C' cl fp => pg_name G.nd n2 (st_of (X := X) (s := s') (H := H) (cenv := compEnvC _ cl C' X.env) (fp := fp) (sc := X.env.scope) (blk_ok e5).uniq rfl "cell" e6).1 (st_of (X := X) (s := s') (H := H) (cenv := compEnvC _ cl C' X.env) (fp := fp) (sc := X.env.scope) (blk_ok e5).uniq rfl "cell" e6).2)
        (fun s' H C' cl fp => pts_nil)
        (fun s' H C' cl fp => pe_callB call_abs (gl_of (X := X.blk s' H _ (compEnvC _ cl C' X.env) fp) e7) (G.blt "abs" (by decide +kernel)) boot_abs (pa_cons (vB _ e8 s' H C' cl fp) pa_nil)) (noset_fold rfl)))
      (pps_cons pe_str pe_int (pps_cons pe_str vM (pps_cons pe_str pe_int pps_nil)))) rfl rfl (fun z => by cases z) (by simp))))), ?_⟩
  have vlen : (ns.map V.int).length = ns.length := List.length_map ..
  -- the numbers
  refine ⟨_, rfl, a, rfl, ⟨_, hs⟩, ?_⟩
  refine for_list (xs := ns.map V.int) (fun _ σ' H' => H' = H ∧ ∃ (m : Int) (y : Option V), σ' = [some (.ref a), some (.int m), y]) ⟨rfl, _, none, rfl⟩ (fun i σ' H' _ h => h.1 ▸ hs) (fun i x σ' H' hx h => ?_) (fun σ' H' h => ?_)
  · obtain ⟨rfl, m, y, rfl⟩ := h
    obtain ⟨c, _, rfl⟩ : ∃ c, c ∈ ns ∧ x = V.int c := by
      have := List.mem_of_getElem? hx
      obtain ⟨c, h1, h2⟩ := List.mem_map.mp this
      exact ⟨c, h1, h2.symm⟩
    refine ⟨_, rfl, _, _, rfl, rfl, .inr ⟨by omega, by omega⟩, _, rfl, _, _, rfl, rfl, .inr ⟨by omega, by omega⟩, _, _, rfl, rfl, _, _, rfl, rfl, .inl ⟨_, rfl, _, _, rfl, rfl, d8, rfl, _, _, rfl⟩⟩
  obtain ⟨rfl, m, y, rfl⟩ := h
  -- the dict
  intro A hA
  have hs1 := SqL.keepU hs (keepNew (x := .dK []) hA)
  refine ⟨_, rfl, a, rfl, ⟨_, hs1⟩, fun B hB => ?_⟩
  have hAB : A ≠ B := fun z => by rw [← z, upd_same] at hB; cases hB
  have hsB : ∀ w, SqL X.K (L2.upd (L2.upd H' A (.dK [])) B w) a (ns.map V.int) := fun w => SqL.keepU hs1 (keepNew hB)
  refine ⟨fun i n H2 => n = ns.length - i ∧ i ≤ ns.length ∧ H2 = L2.upd (L2.upd H' A (.dK [])) B (.lst ((absL (ns.take i)).map V.int)), ⟨_, rfl, Nat.zero_le _, rfl⟩, ?_⟩
  rintro i n H2 ⟨rfl, hi, rfl⟩
  by_cases hlt : i < ns.length
  · refine .inr ⟨⟨_, V.int ns[i], hsB _, by simp [hlt]⟩, fun H3 => H3 = L2.upd (L2.upd H' A (.dK [])) B (.lst ((absL (ns.take (i + 1))).map V.int)), fun H3 z => ⟨_, by omega, rfl, hlt, z⟩, ?_⟩
    rintro x H3 ⟨rfl, hx⟩
    have hx := hx _ (hsB _)
    obtain rfl : x = V.int ns[i] := by simp [hlt] at hx; exact hx.symm
    refine ⟨rfl, ?_⟩
    simp only [tYes, if_true]
    refine ⟨_, rfl, _, rfl, _, upd_same, ?_, ?_⟩
    · rw [List.length_map]
      unfold absL
      rw [List.length_map, List.length_take, SL_eq]
      have : SL = 16777216 := rfl
      omega
    · rw [upd_upd]
      have e1 : (absL (ns.take (i + 1))).map V.int = (absL (ns.take i)).map V.int ++ [V.int (if ns[i] < 0 then -ns[i] else ns[i])] := by
        rw [List.take_succ_eq_append_getElem hlt]
        unfold absL
        rw [List.map_append, List.map_append]
        rfl
      rw [e1]
  · have ei : i = ns.length := by omega
    subst ei
    refine .inl ⟨⟨_, hsB _, by rw [vlen]; exact Nat.le_refl _⟩, ?_⟩
    rw [List.take_length]
    refine ⟨B, _, rfl, .of upd_same, fun C hC => ?_⟩
    have hCB : C ≠ B := fun z => by rw [z, upd_same] at hC; cases hC
    have hCA : C ≠ A := fun z => by rw [z, upd_ne hAB, upd_same] at hC; cases hC
    have hC' : H' C = none := by rw [upd_ne hCB, upd_ne hCA] at hC; exact hC
    have hB' : H' B = none := by rw [upd_ne (Ne.symm hAB)] at hB; exact hB
    refine ⟨_, rfl, ?_⟩
    refine ⟨by rw [upd_ne (Ne.symm hCA), upd_ne hAB, upd_same], [(.inr "cells", .ref C), (.inr "left", .int _), (.inr "mixed", .int m), (.inr "turn", .int _)], rfl, by simp, ?_⟩
    refine hQ A C _ ⟨absL ns, _, m, _⟩ (fun b o e => ?_) ⟨upd_same, ?_, ?_, d4, ?_, d5⟩
    · rw [upd_ne (ne_of_none e hA), upd_ne (ne_of_none e hC'), upd_ne (ne_of_none e hB'), upd_ne (ne_of_none e hA)]; exact e
    · rw [upd_ne hCA, upd_same, List.map_reverse]
    · intro c hc
      obtain ⟨z, _, rfl⟩ := List.mem_map.mp hc
      split <;> omega
    · unfold absL; rw [List.length_map]; exact hl
end Pm
namespace Pm
open PySem PySem.Spec PyProof.Rows L2
def SSok (ss : SS) : Prop := (∀ c ∈ ss.cells, 0 ≤ c) ∧ 0 ≤ ss.left ∧ ss.cells.length ≤ 1000 ∧ 0 ≤ ss.turn
/-- the law's rest says True whatever the source -/
def LawTrue (n i : Nat) (cs : List CS) : Prop := ∀ ss, SSok ss → ∃ s', exs cs ((List.replicate n SV.un).set i .src) ss = some (.rt (.v (.bool true)) s')
def spLaw (K : PySem.W.Frag) : SpG := fun vs H Q => ∃ (a : Addr) (ns : List Int), vs = [.ref a] ∧ SqL K H a (ns.map V.int) ∧ ns.length ≤ 1000 ∧ ∀ H', Q (.bl true) H'
def chkLaw (sc : Scope) (N : List Str) (i : Nat) (cs : List CS) : List Stmt → Bool
  | .Assign [.Name y _] (.Call (.Name f _) [.Name x _] [] _) _ :: rest => N[i]? == some y && locB sc y && (f == "_law_source") && gloB sc f && (x == "script") && N[0]? == some x && visB sc x && chkSs sc N cs rest
  | _ => false
section
variable {P : Program} {w : World} {K : PySem.W.Frag} {mg : Str → Option Value} {base : Heap} {f : Addr} {fd : FuncData} {params : Arguments} {body : List Stmt} {scope : Scope} {name qual : Str}
theorem src_fn (F : FunD K name qual params body scope [] [] f fd) (S : FnScope srcN ["script"] scope) (blt : ∀ y ∈ bltNames, mg y = none) (h : chkSrc scope body = true) : FnG P w K mg base 1 f fd ["script"] (spSrc K) := by
  obtain ⟨oc, od, dV, kV, doc, pm, an, cdv, ct, osl, rfl, lk, hcd, _, _⟩ := F.ex
  refine fnG_of (N := srcN) lk hcd S (fun vs H Q q => ?_) fun A outer s H vs Q hr hg q => ?_
  · obtain ⟨a, ns, rfl, _⟩ := q; rfl
  · obtain ⟨a, ns, rfl, hs, hl, hQ⟩ := q
    have G : GoodS (cxOf CX0 P w K mg base srcN qual scope f cdv A outer s H E0) 0 := { nd := S.nd, calm := rfl, room := hr, gu := hg, blt := blt, own := L2.passes_of rfl, fn := fun _ => rfl, kind := S.kind }
    exact src_walk G rfl h hs hl hQ
theorem law_fn {N : List Str} {i k : Nat} {cs : List CS} {fS : Addr} {fdS : FuncData} (F : FunD K name qual params body scope [] [] f fd) (S : FnScope N ["script"] scope) (blt : ∀ y ∈ bltNames, mg y = none)
    (FS : FnG P w K mg base 1 fS fdS ["script"] (spSrc K)) (bS : Binds K fdS ["script"] []) (kS : PySem.W.keepIn K (.ref fS) = true) (gS : mg "_law_source" = some (.ref fS)) (hk : 1 ≤ k)
    (C : ∀ p ∈ callsSs cs, ∃ i, i ≤ k ∧ CallOk P w K mg base i p.1 p.2) (B : ∀ p ∈ globsSs cs, GlobOk K mg p.1 p.2) (chk : chkLaw scope N i cs body = true) (hi : 1 ≤ i ∧ i < N.length) (T : LawTrue N.length i cs) :
    FnG P w K mg base (k + 1) f fd ["script"] (spLaw K) := by
  obtain ⟨oc, od, dV, kV, doc, pm, an, cdv, ct, osl, rfl, lk, hcd, _, _⟩ := F.ex
  refine fnG_of (N := N) lk hcd S (fun vs H Q q => ?_) fun A outer s H vs Q hr hg q => ?_
  · obtain ⟨a, ns, rfl, _⟩ := q; rfl
  · obtain ⟨a, ns, rfl, hs, hl, hQ⟩ := q
    have G : GoodS (cxOf CX0 P w K mg base N qual scope f cdv A outer s H E0) k := { nd := S.nd, calm := rfl, room := hr, gu := hg, blt := blt, own := L2.passes_of rfl, fn := fun _ => rfl, kind := S.kind }
    unfold chkLaw at chk
    split at chk
    case h_2 => cases chk
    simp only [Bool.and_eq_true] at chk
    obtain ⟨⟨⟨⟨⟨⟨⟨c1, c2⟩, c3⟩, c4⟩, c5⟩, c6⟩, c7⟩, c8⟩ := chk
    obtain rfl := eq_of_beq c3
    obtain rfl := eq_of_beq c5
    have es : L2.start N [V.ref a] = some (.ref a) :: List.replicate (N.length - 1) none := rfl
    let X := cxOf CX0 P w K mg base N qual scope f cdv A outer s H E0
    have call := fun (p q r : Pos) => pe_callG (X := X) (p := p) (pos := q) FS (G.toGood.room.mono hk) G.gu (gl_of (X := X) c4) gS kS bS (by decide) (pa_cons (pe_var (pos := r) (eq_of_beq c6) (vis_of c7) (by decide) (by decide)) pa_nil) rfl rfl
    refine ⟨_, pss_cons (ps_set G.nd (eq_of_beq c1) (loc_of c2) (call _ _ _) rfl (.inl rfl)) (LS.all fun g => exs_ok g G cs _ C B c8), ?_⟩
    refine ⟨_, rfl, a, ns, rfl, hs, hl, fun A' C' H' ss hkeep hsrc => ?_⟩
    refine ⟨⟨A', C', H', fun _ => False⟩, ?_⟩
    obtain ⟨s', e⟩ := T ss hsrc.2.2
    refine ⟨fun _ => False, ss, _, _, e, ⟨?_, fun j t ej => ?_, fun j l t u b hne ej el os ot => ?_, fun _ _ e _ _ => e, fun _ z => z.elim, fun _ z => z.elim, fun _ z => z, fun z => z, ⟨ss, hsrc⟩, hsrc⟩, fun x H2 F2 _ _ hx => ?_⟩
    · rw [es]; simp; omega
    · by_cases hj : i = j
      · subst hj
        rw [List.getElem?_set_self (by simpa using hi.2)] at ej
        cases ej
        exact ⟨_, List.getElem?_set_self (by rw [es]; simp; omega), rfl⟩
      · rw [List.getElem?_set_ne hj] at ej ⊢
        have hjl : j < N.length := by have := (List.getElem?_eq_some_iff.mp ej).1; simpa using this
        rw [List.getElem?_replicate, if_pos hjl] at ej
        cases ej
        exact ⟨_, List.getElem?_eq_getElem (by rw [es]; simp; omega), trivial⟩
    · have no : ∀ (j : Nat) (t : SV), ((List.replicate N.length SV.un).set i .src)[j]? = some t → t.ow = false := by
        intro j t e
        have hm := List.mem_of_getElem? e
        rcases List.mem_or_eq_of_mem_set hm with h | h
        · rw [(List.mem_replicate.mp h).2]; rfl
        · rw [h]; rfl
      rw [no j t ej] at os; cases os
    · cases hx
      exact hQ _
end
end Pm
namespace Pm
open PySem PySem.Spec PyProof.Rows L2
/-- the law is called: only the script may be tracked -/
theorem call_at {P : Program} {w : World} {K : PySem.W.Frag} {mg mb : Str → Option Value} {k : Nat} {fl sc : Addr} {fd : FuncData} {t : Shared} {us : List Value} {ns : List Int} {H : Hp}
    (inK : K.In t.heap) (nsG : t.heap.Ns mainGlobals mg) (nsB : t.heap.Ns builtinsNs mb) (boot : ∀ y : Str, y ≠ "__name__" → mb y = bootBuiltins y) (lim : t.heap.NoLimit) (gens : t.gens = #[])
    (obj : t.heap.get? sc = some { cls := .type "list", data := .seq us.toArray }) (room : Room k callerA)
    (F : ∀ base : Heap, K.In base → base.Ns mainGlobals mg → FnG P w K mg base k fl fd ["script"] (spLaw K)) (bind : ∀ (s : Shared) (u : Value), BindsTo s fd ⟨[u], []⟩ [("script", u)])
    (only : ∀ b, H b = none ∨ ∃ o xs, H b = some (.frz o (.lst xs))) (sq : SqL K H sc (ns.map V.int)) (hl : ns.length ≤ 1000) (hok : HOk P w H t.heap) (one : ∀ b, H b ≠ none → b = sc) (out : H sc ≠ none → K.lookup sc = none) :
    codeAny (model P w) callerA (.call (.ref fl) ⟨[.ref sc], []⟩) (fun r t' => r = .ok (.ret (.bool true)) ∧ OldK t.heap t'.heap ∧ t'.os = t.os ∧ AllBare t'.gens) t := by
  have plain : ∀ {b : Addr} {o : Obj}, t.heap.get? b = some o → (∀ n, o.data ≠ .seq us.toArray n) → (hidT t.heap H).get? b = some o := by
    intro b o e d
    cases q : H b with
    | none => exact hidT_get e q
    | some v =>
      obtain rfl := one b (by rw [q]; exact fun z => by cases z)
      rw [obj] at e
      cases e
      exact absurd rfl (d _)
  have nsOf : ∀ {b : Addr} {m : Str → Option Value}, t.heap.Ns b m → (hidT t.heap H).Ns b m := by
    rintro b m ⟨o, es, ep, e, d, r⟩
    exact ⟨o, es, ep, plain e (fun n z => by rw [d] at z; cases z), d, r⟩
  have inB : K.In (hidT t.heap H) := by
    intro b o e
    cases q : H b with
    | none => exact hidT_get (inK b o e) q
    | some v =>
      obtain rfl := one b (by rw [q]; exact fun z => by cases z)
      have := out (by rw [q]; exact fun z => by cases z)
      rw [this] at e; cases e
  obtain ⟨ml, l1, l2⟩ := lim
  have env : Env0 P w K mg (hidT t.heap H) callerA [] t H := {
    frames := rfl
    mod := ⟨inB, nsOf nsG, ⟨mb, nsOf nsB, boot⟩, ⟨ml, nsOf l1, l2⟩⟩
    bs := fun b o e => of_hidT e
    bsz := Nat.le_of_eq (hidT_size _ _)
    funs := trivial
    frf := fun b z => by cases z
    hok := hok
    bare := .of_eq gens }
  have run := (F _ inB (nsOf nsG)).run callerA [] t H ⟨[.ref sc], []⟩ [.ref sc] [.ref sc] (fun v _ => v = .bl true) room rfl env (bind t (.ref sc)) (.cons rfl .nil) ⟨sc, ns, rfl, sq, hl, fun _ => rfl⟩
  refine codeAny_mono run fun r t' hr => ?_
  cases r with
  | error e => exact False.elim hr
  | ok fl =>
    cases fl with
    | ret u =>
      obtain ⟨v, H', os, bare, un, hok', rel, hv⟩ := hr
      have hv : v = .bl true := hv
      subst hv
      obtain rfl : u = Value.bool true := rel
      refine ⟨rfl, OldK.of_keep fun b o e => ?_, os, bare⟩
      rcases only b with q | ⟨ob, xs, q⟩
      · exact un.keep b o e q (fun z => by cases z) (fun z => by cases z)
      · obtain ⟨o1, _⟩ := hok b _ q
        obtain ⟨o2, _⟩ := hok' b _ (un.frzs b ob _ q)
        rw [e] at o1
        cases o1
        exact o2
    | _ => exact False.elim hr
theorem call_law {P : Program} {w : World} {K : PySem.W.Frag} {mg mb : Str → Option Value} {k : Nat} {fl sc : Addr} {fd : FuncData} {t : Shared} {us : List Value} {ns : List Int}
    (inK : K.In t.heap) (nsG : t.heap.Ns mainGlobals mg) (nsB : t.heap.Ns builtinsNs mb) (boot : ∀ y : Str, y ≠ "__name__" → mb y = bootBuiltins y) (lim : t.heap.NoLimit) (gens : t.gens = #[])
    (obj : t.heap.get? sc = some { cls := .type "list", data := .seq us.toArray }) (hints : IntsAre us ns) (hl : ns.length ≤ 1000) (room : Room k callerA)
    (F : ∀ base : Heap, K.In base → base.Ns mainGlobals mg → FnG P w K mg base k fl fd ["script"] (spLaw K)) (bind : ∀ (s : Shared) (u : Value), BindsTo s fd ⟨[u], []⟩ [("script", u)]) :
    codeAny (model P w) callerA (.call (.ref fl) ⟨[.ref sc], []⟩) (fun r t' => r = .ok (.ret (.bool true)) ∧ OldK t.heap t'.heap ∧ t'.os = t.os ∧ AllBare t'.gens) t := by
  have rel := vals_ints hints
  have len := hints.length
  have big : ns.length ≤ sizeLine := by rw [SL_eq]; have : SL = 16777216 := rfl; omega
  cases q : K.lookup sc with
  | some o =>
    have e := inK sc o q
    rw [obj] at e
    cases e
    exact call_at (H := fun _ => none) inK nsG nsB boot lim gens obj room F bind (fun _ => .inl rfl) (.inr ⟨_, us.toArray, _, q, rfl, rfl, rfl, by rw [List.size_toArray, len]; exact big, by simpa using rel⟩) hl (fun b v z => by cases z) (fun b z => absurd rfl z) (fun z => absurd rfl z)
  | none =>
    let O : HO := .frz { cls := .type "list", data := .seq us.toArray } (.lst (ns.map V.int))
    have same : (L2.upd (fun _ => none) sc O) sc = some O := upd_same
    have other : ∀ b, b ≠ sc → (L2.upd (fun _ => none) sc O) b = none := fun b hb => upd_ne hb
    refine call_at (H := L2.upd (fun _ => none) sc O) inK nsG nsB boot lim gens obj room F bind (fun b => ?_) (.inl (.inr ⟨_, same⟩)) hl (fun b v z => ?_) (fun b z => ?_) (fun _ => q)
    · by_cases hb : b = sc
      · subst hb; exact .inr ⟨_, _, same⟩
      · exact .inl (other b hb)
    · by_cases hb : b = sc
      · subst hb
        rw [same] at z
        cases z
        exact ⟨obj, by rw [List.length_map]; exact big, us, _, rel, obj⟩
      · rw [other b hb] at z; cases z
    · by_cases hb : b = sc
      · exact hb
      · exact absurd (other b hb) z
/-- the end over a head by facts -/
theorem walkG {l : PySem.W.OpenLaw} {n k : Nat} {q : Program} {loose : List Str} {XP : (Str → Option Value) → Heap → Prop} {YP : World → Heap → Prop} {d : DefRec} (hn : l.most = some n) (hn2 : n ≤ 1000) (hdf : d.params.defaults = []) (room : Room k callerA)
    (F : ∀ (w : World) (mg : Str → Option Value) (fl : Addr) (h : Heap), YP w h → h.Ns mainGlobals mg → mg d.name = some (.ref fl) →
      ∃ (K : PySem.W.Frag) (fd : FuncData), K.In h ∧ (∀ (s : Shared) (u : Value), BindsTo s fd ⟨[u], []⟩ [("script", u)]) ∧ ∀ base : Heap, K.In base → base.Ns mainGlobals mg → FnG l.prog w K mg base k fl fd ["script"] (spLaw K)) :
    PySem.W.WalkO q loose XP YP l.row.toRowW d [] (fun f vs => PySem.call f vs) := by
  refine Att.attach_call hn hdf fun w s₀ t mg mb fl o pm cd doc sc us ns G Y ho hd hcd named obj hints short gens => ?_
  obtain ⟨K, fd, inK, bind, ok⟩ := F w mg fl _ Y G.T.g named
  exact call_law inK G.T.g G.T.b G.T.builtins G.T.nolimit gens obj hints (Nat.le_trans short hn2) room ok bind
end Pm
namespace Pm
open PySem PySem.Spec PyProof.Rows L2
/-- the defs that a text calls -/
structure AllC (P : Program) (w : World) (K : PySem.W.Frag) (mg : Str → Option Value) (base : Heap) (k : Nat) (l : List (Str × Fn)) : Prop where
  get : ∀ p ∈ l, ∃ i, i ≤ k ∧ CallOk P w K mg base i p.1 p.2
structure AllG (K : PySem.W.Frag) (mg : Str → Option Value) (l : List (Str × D)) : Prop where
  get : ∀ p ∈ l, GlobOk K mg p.1 p.2
section
variable {P : Program} {w : World} {K : PySem.W.Frag} {mg : Str → Option Value} {base : Heap} {k i : Nat} {l : List (Str × Fn)} {x : Str} {f : Fn}
theorem AllC.nil : AllC P w K mg base k [] := ⟨fun _ h => by cases h⟩
theorem AllC.cons (hi : i ≤ k) (o : CallOk P w K mg base i x f) (r : AllC P w K mg base k l) : AllC P w K mg base k ((x, f) :: l) := ⟨fun p hp => by
  rcases List.mem_cons.mp hp with rfl | hp
  · exact ⟨i, hi, o⟩
  · exact r.get p hp⟩
theorem AllG.nil : AllG K mg [] := ⟨fun _ h => by cases h⟩
theorem AllG.cons {d : D} {l : List (Str × D)} (o : GlobOk K mg x d) (r : AllG K mg l) : AllG K mg ((x, d) :: l) := ⟨fun p hp => by
  rcases List.mem_cons.mp hp with rfl | hp
  · exact o
  · exact r.get p hp⟩
theorem callOk_of' {fl : Addr} {fd : FuncData} {name qual : Str} {params : Arguments} {body : List Stmt} {scope : Scope} {N ps : List Str} {cs : List CS} {np : Nat} (F : FunD K name qual params body scope [] [] fl fd) (S : FnScope N ps scope)
    (hx : mg x = some (.ref fl)) (hb : Binds K fd ps []) (hnp : np = ps.length) (blt : ∀ y ∈ bltNames, mg y = none)
    (C : ∀ p ∈ callsSs cs, ∃ i, i ≤ k ∧ CallOk P w K mg base i p.1 p.2) (B : ∀ p ∈ globsSs cs, GlobOk K mg p.1 p.2) (chk : chkSs scope N cs body = true) :
    CallOk P w K mg base (k + 1) x (runF np N.length cs) := by
  obtain ⟨oc, od, dV, kV, doc, pm, an, cdv, ct, osl, rfl, lk, hcd, _, _⟩ := F.ex
  exact callOk_of lk hcd S hx F.kp hb hnp blt C B chk
end
end Pm
/-! running core terms on values that are not known -/
namespace Pm
open PySem
def B_pick : List CS := [.whl (.and (.cmp .gt (.loc 1) (.lit (.int 1))) (.and (.cmp .lt (.sget .left 0) (.lit (.int 2))) (.cmp .gt (.slen 0) (.lit (.int 0))))) [.spop 0], .set 2 (.sget .left 0), .ite (.or (.cmp .lt (.loc 1) (.lit (.int 2))) (.cmp .gt (.loc 2) (.lit (.int 1)))) [.sput .left 0 (.bin .fdiv (.loc 2) (.bi .max2 [(.lit (.int 1)), (.loc 1)])), .ret (.bin .mod (.bi .int [(.loc 2)]) (.bi .max2 [(.lit (.int 1)), (.loc 1)]))] [], .sput .turn 0 (.bin .add (.sget .turn 0) (.lit (.int 1))), .set 3 (.bin .mod (.bi .int [(.bin .add (.sget .mixed 0) (.bin .mul (.sget .turn 0) (.lit (.int 104729))))]) (.lit (.int 998244353))), .set 3 (.bin .mod (.bi .int [(.bin .add (.bin .mul (.loc 3) (.loc 3)) (.bin .mul (.sget .turn 0) (.lit (.int 17))))]) (.lit (.int 2147483647))), .sput .mixed 0 (.loc 3), .ret (.bin .mod (.bi .int [(.bin .fdiv (.loc 3) (.lit (.int 16)))]) (.loc 1))]
def F_pick : Fn := runF 2 4 B_pick
/-! ### one step -/
theorem exs_nil (sl : List SV) (ss : SS) : exs [] sl ss = some (.nx sl ss) := rfl
theorem exs_cons (c : CS) (cs : List CS) (sl : List SV) (ss : SS) : exs (c :: cs) sl ss = match ex c sl ss with
    | some (.nx sl ss) => exs cs sl ss
    | r => r := rfl
theorem exs_nx {c : CS} {cs : List CS} {sl sl' : List SV} {ss ss' : SS} (h : ex c sl ss = some (.nx sl' ss')) : exs (c :: cs) sl ss = exs cs sl' ss' := by rw [exs_cons, h]
theorem exs_rt {c : CS} {cs : List CS} {sl : List SV} {ss ss' : SS} {r : R} (h : ex c sl ss = some (.rt r ss')) : exs (c :: cs) sl ss = some (.rt r ss') := by rw [exs_cons, h]
def outF : Option Out → Option (R × SS)
  | some (.rt r ss) => some (r, ss)
  | some (.nx _ ss) => some (.v .none, ss)
  | none => none
theorem runF_eq {np N : Nat} {body : List CS} {args : List AV} {ss : SS} (h : args.length = np) : runF np N body args ss = outF (exs body (args.map AV.sv ++ List.replicate (N - np) .un) ss) := by
  unfold runF
  rw [if_pos h]
  cases exs body (args.map AV.sv ++ List.replicate (N - np) .un) ss with
  | none => rfl
  | some o => cases o <;> rfl
def pickC : CE := .and (.cmp .gt (.loc 1) (.lit (.int 1))) (.and (.cmp .lt (.sget .left 0) (.lit (.int 2))) (.cmp .gt (.slen 0) (.lit (.int 0))))
def pickS (many : Int) : List SV := [.src, .v (.int many), .un, .un]
theorem pick_c (many : Int) (ss : SS) : toB (ev pickC (pickS many) ss) = some (decide (1 < many) && (decide (ss.left < 2) && decide (0 < ss.cells.length)), ss) := by
  simp only [pickC, ev, toD, toB, O.f, cmpD, ordD, getR, pickS, slR, isSrc, List.getElem?_cons_zero, List.getElem?_cons_succ, Option.bind_some, Option.map_some, rd, asB, bl, SS.get]
  by_cases h1 : 1 < many <;> by_cases h2 : ss.left < 2 <;> by_cases h3 : 0 < ss.cells.length <;> simp [h1, h2, h3, asB]
theorem pick_w (many : Int) : ∀ (n : Nat) (ss : SS), SSok ss → ss.cells.length < n → ∃ ss', whD (fun sl ss => toB (ev pickC sl ss)) (fun sl ss => exs [.spop 0] sl ss) n (pickS many) ss = some (.nx (pickS many) ss') ∧ SSok ss'
  | 0, ss, ok, h => by omega
  | n + 1, ss, ok, h => by
    unfold whD
    rw [pick_c]
    simp only [Option.bind_some]
    cases hb : (decide (1 < many) && (decide (ss.left < 2) && decide (0 < ss.cells.length))) with
    | false => exact ⟨ss, rfl, ok⟩
    | true =>
      simp only [Bool.and_eq_true, decide_eq_true_eq] at hb
      obtain ⟨cells, left, mixed, turn⟩ := ss
      obtain ⟨o1, o2, o3, o4⟩ := ok
      cases cells with
      | nil => simp at hb
      | cons c cs =>
        have : exs [.spop 0] (pickS many) ⟨c :: cs, left, mixed, turn⟩ = some (.nx (pickS many) ⟨cs, c, mixed, turn⟩) := rfl
        rw [if_pos rfl, this]
        exact pick_w many n _ ⟨fun x hx => o1 x (List.mem_cons_of_mem _ hx), o1 c List.mem_cons_self, by simp at o3; show cs.length ≤ 1000; omega, o4⟩ (by simp at h; show cs.length < n; omega)
theorem log_small {i : Int} (h : i.natAbs < 18446744073709551616) : i.natAbs.log2 < 9000 := by
  by_cases hz : i.natAbs = 0
  · rw [hz]; decide
  · have := (Nat.log2_lt hz).mpr (show i.natAbs < 2 ^ 64 by omega)
    omega
theorem pick_ok (many : Int) (h : many < 18446744073709551616) (ss : SS) (ok : SSok ss) : ∃ r ss', F_pick [.src, .v (.int many)] ss = some (.v (.int r), ss') ∧ SSok ss' ∧ 0 ≤ r ∧ r < max 1 many := by
  obtain ⟨s1, e1, ok⟩ := pick_w many FUEL ss ok (by have := ok.2.2.1; show _ < 100000; omega)
  have ew : ex (.whl pickC [.spop 0]) (pickS many) ss = some (.nx (pickS many) s1) := e1
  obtain ⟨cells, left, mixed, turn⟩ := s1
  obtain ⟨o1, o2, o3, o4⟩ := ok
  simp only at o1 o2 o3 o4
  have key : F_pick [.src, .v (.int many)] ss = outF (exs B_pick.tail (pickS many) ⟨cells, left, mixed, turn⟩) := by
    refine (runF_eq (np := 2) (N := 4) (body := B_pick) (args := [.src, .v (.int many)]) rfl).trans ?_
    show outF (exs (.whl pickC [.spop 0] :: B_pick.tail) (pickS many) ss) = _
    rw [exs_nx ew]
  rw [key]
  have hmax : (if many > 1 then many else 1) = max 1 many := by
    by_cases q : 1 < many
    · rw [if_pos q]; omega
    · rw [if_neg q]; omega
  by_cases hc : many < 2 ∨ 1 < left
  · have hl : (max 1 many).natAbs < 18446744073709551616 := by omega
    have q1 : (0 : Int) < max 1 many := by omega
    have q2 := Int.ediv_nonneg o2 (Int.le_of_lt q1)
    refine ⟨left % max 1 many, ⟨cells, left / max 1 many, mixed, turn⟩, ?_, ⟨o1, q2, o3, o4⟩, Int.emod_nonneg _ (by omega), Int.emod_lt_of_pos _ q1⟩
    rcases hc with hc | hc
    · simp [B_pick, exs, ex, ev, evs, toD, toB, toDs, O.f, cmpD, ordD, getR, pickS, slR, isSrc, rd, rds, asB, bl, SS.get, toSet, toS, setS, hc, sputD, SS.put, binD, fdivD, modD, biD, max2D, intD, hmax, log_small hl, q1, q2, retR, outF]
    · simp [B_pick, exs, ex, ev, evs, toD, toB, toDs, O.f, cmpD, ordD, getR, pickS, slR, isSrc, rd, rds, asB, bl, SS.get, toSet, toS, setS, hc, sputD, SS.put, binD, fdivD, modD, biD, max2D, intD, hmax, log_small hl, q1, q2, retR, outF]
  · rw [not_or] at hc
    obtain ⟨c1, c2⟩ := hc
    have e0 : max 1 many = many := by omega
    rw [e0]
    have q1 : (0 : Int) < many := by omega
    have b1 := Int.emod_nonneg (mixed + (turn + 1) * 104729) (b := 998244353) (by decide)
    have b2 := Int.emod_lt_of_pos (mixed + (turn + 1) * 104729) (b := 998244353) (by decide)
    refine ⟨(((mixed + (turn + 1) * 104729) % 998244353 * ((mixed + (turn + 1) * 104729) % 998244353) + (turn + 1) * 17) % 2147483647 / 16) % many, ⟨cells, left, ((mixed + (turn + 1) * 104729) % 998244353 * ((mixed + (turn + 1) * 104729) % 998244353) + (turn + 1) * 17) % 2147483647, turn + 1⟩, ?_, ⟨o1, o2, o3, by show 0 ≤ turn + 1; omega⟩, Int.emod_nonneg _ (by omega), Int.emod_lt_of_pos _ q1⟩
    have a1 : (104729 : Int).natAbs < 18446744073709551616 := by decide
    have a2 : (17 : Int).natAbs < 18446744073709551616 := by decide
    have a3 : ((mixed + (turn + 1) * 104729) % 998244353).natAbs < 18446744073709551616 := by omega
    have a4 : (0 : Int) ≤ turn + 1 := by omega
    have a5 : Nat.log2 16 < 9000 := by decide +kernel
    simp [B_pick, exs, ex, ev, evs, toD, toB, toDs, O.f, cmpD, ordD, getR, pickS, slR, isSrc, rd, rds, asB, bl, SS.get, toSet, toS, setS, c1, c2, sputD, SS.put, binD, fdivD, modD, mulD, addD, biD, max2D, intD, q1, retR, outF, a1, a2, a3, a4, a5]
end Pm
/-! lists of iL; comprehensions; fors -/
namespace Pm
open PySem
def iL (l : List Int) : List D := l.map .int
theorem iL_len (l : List Int) : (iL l).length = l.length := by simp [iL]
theorem iL_nil : iL [] = [] := rfl
theorem iL_cons (i : Int) (l : List Int) : iL (i :: l) = .int i :: iL l := rfl
theorem iL_app (a b : List Int) : iL (a ++ b) = iL a ++ iL b := by simp [iL]
theorem iL_get (l : List Int) (k : Nat) : (iL l)[k]? = l[k]?.map .int := by simp [iL]
theorem canLay_ints : ∀ l : List Int, PyData.canLayAll0 (iL l) = true
  | [] => by simp [PyData.canLayAll0, iL]
  | i :: l => by simp only [iL, List.map_cons, PyData.canLayAll0, PyData.canLay0, Bool.true_and]; exact canLay_ints l
theorem depthAll_ints : ∀ is : List Int, PyData.depthAll (iL is) = 0
  | [] => by simp [PyData.depthAll, iL]
  | i :: is => by
    have := depthAll_ints is
    simp only [iL] at this
    simp [iL, PyData.depthAll, PyData.depth, this]
theorem shaped_lst (l : List Int) : SeqAt.shaped (.list (iL l)) = true := by
  unfold SeqAt.shaped
  rw [PyData.canLay0, canLay_ints, PyData.depth, depthAll_ints]
  rfl
theorem shaped_tup (l : List Int) : SeqAt.shaped (.tuple (iL l)) = true := by
  unfold SeqAt.shaped
  rw [PyData.canLay0, canLay_ints, PyData.depth, depthAll_ints]
  rfl
theorem shaped_int' (i : Int) : SeqAt.shaped (.int i) = true := rfl
theorem eqvAll_ints : ∀ a b : List Int, PyData.eqvAll (iL a) (iL b) = decide (a = b)
  | [], [] => by simp [PyData.eqvAll, iL]
  | [], _ :: _ => by simp [PyData.eqvAll, iL]
  | _ :: _, [] => by simp [PyData.eqvAll, iL]
  | x :: a, y :: b => by
    have := eqvAll_ints a b
    simp only [iL] at this
    simp only [iL, List.map_cons, PyData.eqvAll, this, PyData.eqv]
    by_cases h : x = y <;> by_cases h2 : a = b <;> simp [h, h2]
theorem eq_lst (a b : List Int) : eqD (.list (iL a)) (.list (iL b)) = some (decide (a = b)) := by
  unfold eqD
  simp only
  rw [if_pos ⟨shaped_lst a, shaped_lst b⟩, PyData.eqv, eqvAll_ints]
theorem eq_lst0 (a : List Int) : eqD (.list (iL a)) (.list []) = some (decide (a = [])) := eq_lst a []
theorem eq_tup (a b : List Int) : eqD (.tuple (iL a)) (.tuple (iL b)) = some (decide (a = b)) := by
  unfold eqD
  simp only
  rw [if_pos ⟨shaped_tup a, shaped_tup b⟩, PyData.eqv, eqvAll_ints]
theorem eq_int (a b : Int) : eqD (.int a) (.int b) = some (a == b) := rfl
theorem eq_str (a b : Str) : eqD (.str a) (.str b) = some (a == b) := rfl
theorem in_lst (x : Int) (l : List Int) : inD (.int x) (.list (iL l)) = some (decide (x ∈ l)) := by
  unfold inD
  simp only
  rw [if_pos ⟨rfl, shaped_lst l⟩]
  congr 1
  induction l with
  | nil => simp [iL]
  | cons y l ih =>
    simp only [iL] at ih
    simp only [iL]
    rw [List.map_cons, List.any_cons, ih, PyData.eqv]
    by_cases h : y = x
    · subst h; simp
    · have h' : ¬ x = y := fun e => h e.symm
      by_cases h2 : x ∈ l <;> simp [h, h', h2]
theorem range_ints (n : Nat) : rangeD 0 (n : Int) = iL ((List.range n).map fun (k : Nat) => (k : Int)) := by
  unfold rangeD iL
  rw [List.map_map, show ((n : Int) - 0).toNat = n by omega]
  refine List.map_congr_left fun k _ => ?_
  simp
/-! ### the arms, one by one -/
theorem e_lit (d : D) (sl : List SV) (ss : SS) : ev (.lit d) sl ss = (some (.v d, ss)) := (rfl)
theorem e_glo (u0 : Str) (d : D) (sl : List SV) (ss : SS) : ev (.glo u0 d) sl ss = (some (.v d, ss)) := (rfl)
theorem e_loc (i : Nat) (sl : List SV) (ss : SS) : ev (.loc i) sl ss = ((getR sl i).map fun r => (r, ss)) := (rfl)
theorem e_bin (o : BOp) (a : CE) (b : CE) (sl : List SV) (ss : SS) : ev (.bin o a b) sl ss = ((toD (ev a sl ss)).bind fun p => (toD (ev b sl p.2)).bind fun q => (binD o p.1 q.1).map fun r => (r, q.2)) := (rfl)
theorem e_neg (a : CE) (sl : List SV) (ss : SS) : ev (.neg a) sl ss = ((toD (ev a sl ss)).f negD) := (rfl)
theorem e_not (a : CE) (sl : List SV) (ss : SS) : ev (.not a) sl ss = ((toB (ev a sl ss)).bind fun p => some (bl (!p.1), p.2)) := (rfl)
theorem e_and (a : CE) (b : CE) (sl : List SV) (ss : SS) : ev (.and a b) sl ss = ((toB (ev a sl ss)).bind fun p => if p.1 then (toB (ev b sl p.2)).bind fun q => some (bl q.1, q.2) else some (bl false, p.2)) := (rfl)
theorem e_or (a : CE) (b : CE) (sl : List SV) (ss : SS) : ev (.or a b) sl ss = ((toB (ev a sl ss)).bind fun p => if p.1 then some (bl true, p.2) else (toB (ev b sl p.2)).bind fun q => some (bl q.1, q.2)) := (rfl)
theorem e_cmp (o : COp) (a : CE) (b : CE) (sl : List SV) (ss : SS) : ev (.cmp o a b) sl ss = ((toD (ev a sl ss)).bind fun p => (toD (ev b sl p.2)).bind fun q => (cmpD o p.1 q.1).map fun r => (bl r, q.2)) := (rfl)
theorem e_cmp2 (o : COp) (o' : COp) (a : CE) (b : CE) (c : CE) (sl : List SV) (ss : SS) : ev (.cmp2 o o' a b c) sl ss = ((toD (ev a sl ss)).bind fun p => (toD (ev b sl p.2)).bind fun q => (cmpD o p.1 q.1).bind fun r => if r then (toD (ev c sl q.2)).bind fun t => (cmpD o' q.1 t.1).map fun r => (bl r, t.2) else some (bl false, q.2)) := (rfl)
theorem e_ife (c : CE) (a : CE) (b : CE) (sl : List SV) (ss : SS) : ev (.ife c a b) sl ss = ((toB (ev c sl ss)).bind fun p => if p.1 then ev a sl p.2 else ev b sl p.2) := (rfl)
theorem e_tup (es : List CE) (sl : List SV) (ss : SS) : ev (.tup es) sl ss = ((toX (evs es sl ss)).bind fun p => some (.v (.tuple p.1), p.2)) := (rfl)
theorem e_lst (es : List CE) (sl : List SV) (ss : SS) : ev (.lst es) sl ss = ((toX (evs es sl ss)).bind fun p => some (.fr p.1, p.2)) := (rfl)
theorem e_idx (a : CE) (i : CE) (sl : List SV) (ss : SS) : ev (.idx a i) sl ss = ((toD (ev a sl ss)).bind fun p => (toD (ev i sl p.2)).bind fun q => (idxD p.1 q.1).map fun d => (.v d, q.2)) := (rfl)
theorem e_sli (a : CE) (lo : CE) (hi : CE) (sl : List SV) (ss : SS) : ev (.sli a lo hi) sl ss = ((toD (ev a sl ss)).bind fun p => (toP lo (ev lo sl p.2)).bind fun q => (toP hi (ev hi sl q.2)).bind fun t => (sliD p.1 q.1 t.1).map fun r => (r, t.2)) := (rfl)
theorem e_nop  (sl : List SV) (ss : SS) : ev .nop sl ss = (some (.v .none, ss)) := (rfl)
theorem e_rev (a : CE) (sl : List SV) (ss : SS) : ev (.rev a) sl ss = ((toD (ev a sl ss)).f revD) := (rfl)
theorem e_bi (f : Bi) (es : List CE) (sl : List SV) (ss : SS) : ev (.bi f es) sl ss = ((toDs (evs es sl ss)).f (biD f)) := (rfl)
theorem e_met (m : Me) (o : CE) (es : List CE) (sl : List SV) (ss : SS) : ev (.met m o es) sl ss = ((toD (ev o sl ss)).bind fun p => (toDs (evs es sl p.2)).bind fun q => (meD m p.1 q.1).map fun r => (r, q.2)) := (rfl)
theorem e_call (u0 : Str) (f : Fn) (es : List CE) (sl : List SV) (ss : SS) : ev (.call u0 f es) sl ss = ((evs es sl ss).bind fun p => callD f p.1 p.2) := (rfl)
theorem e_newk  (sl : List SV) (ss : SS) : ev .newk sl ss = (some (.nk [], ss)) := (rfl)
theorem e_newt  (sl : List SV) (ss : SS) : ev .newt sl ss = (some (.nt [], ss)) := (rfl)
theorem e_dhas (b : Bool) (k : CE) (i : Nat) (sl : List SV) (ss : SS) : ev (.dhas b k i) sl ss = ((toD (ev k sl ss)).f (dhasD b sl i)) := (rfl)
theorem e_dget (i : Nat) (k : CE) (sl : List SV) (ss : SS) : ev (.dget i k) sl ss = ((toD (ev k sl ss)).f (dgetD sl i)) := (rfl)
theorem e_dget2 (i : Nat) (k : CE) (d : CE) (sl : List SV) (ss : SS) : ev (.dget2 i k d) sl ss = ((toD (ev k sl ss)).bind fun p => (toE (ev d sl p.2)).bind fun q => (dget2D sl i p.1 q.1).map fun r => (r, q.2)) := (rfl)
theorem e_star (e : CE) (sl : List SV) (ss : SS) : ev (.star e) sl ss = ((toI (ev e sl ss)).bind fun p => some (.st p.1, p.2)) := (rfl)
theorem e_rg1 (a : CE) (sl : List SV) (ss : SS) : ev (.rg1 a) sl ss = ((toD (ev a sl ss)).f rg1D) := (rfl)
theorem e_rg2 (a : CE) (b : CE) (sl : List SV) (ss : SS) : ev (.rg2 a b) sl ss = ((toD (ev a sl ss)).bind fun p => (toD (ev b sl p.2)).bind fun q => (rg2D p.1 q.1).map fun r => (r, q.2)) := (rfl)
theorem e_enm (a : CE) (sl : List SV) (ss : SS) : ev (.enm a) sl ss = ((toD (ev a sl ss)).f enD) := (rfl)
theorem e_zip (a : CE) (b : CE) (sl : List SV) (ss : SS) : ev (.zip a b) sl ss = ((toD (ev a sl ss)).bind fun p => (toD (ev b sl p.2)).bind fun q => (zipD p.1 q.1).map fun r => (r, q.2)) := (rfl)
theorem e_sget (k : SK) (i : Nat) (sl : List SV) (ss : SS) : ev (.sget k i) sl ss = (match isSrc sl i with | true => some (.v (.int (ss.get k)), ss) | false => none) := (rfl)
theorem e_slen (i : Nat) (sl : List SV) (ss : SS) : ev (.slen i) sl ss = (match isSrc sl i with | true => some (.v (.int ss.cells.length), ss) | false => none) := (rfl)
theorem es_nil (sl : List SV) (ss : SS) : evs [] sl ss = some ([], ss) := (rfl)
theorem es_cons (e : CE) (es : List CE) (sl : List SV) (ss : SS) : evs (e :: es) sl ss = ((ev e sl ss).bind fun p => (evs es sl p.2).bind fun q => some (p.1 :: q.1, q.2)) := (rfl)
theorem x_set (i : Nat) (e : CE) (sl : List SV) (ss : SS) : ex (.set i e) sl ss = (toSet (ev e sl ss) sl i) := (rfl)
theorem x_unp (t : TGt) (e : CE) (sl : List SV) (ss : SS) : ex (.unp t e) sl ss = ((toD (ev e sl ss)).bind fun p => (bindT t p.1 sl).map fun sl => .nx sl p.2) := (rfl)
theorem x_par (js : List Nat) (es : List CE) (sl : List SV) (ss : SS) : ex (.par js es) sl ss = (((evs es sl ss).f toSs).bind fun p => (setAll js p.1 sl).map fun sl => .nx sl p.2) := (rfl)
theorem x_sto (i : Nat) (k : CE) (e : CE) (sl : List SV) (ss : SS) : ex (.sto i k e) sl ss = ((toE (ev e sl ss)).bind fun p => (toD (ev k sl p.2)).bind fun q => (stoD sl i q.1 p.1).map fun sl => .nx sl q.2) := (rfl)
theorem x_sto2 (i : Nat) (k : CE) (j : Nat) (l : CE) (e : CE) (f : CE) (sl : List SV) (ss : SS) : ex (.sto2 i k j l e f) sl ss = ((toE (ev e sl ss)).bind fun p => (toE (ev f sl p.2)).bind fun q => (toD (ev k sl q.2)).bind fun t => (stoD sl i t.1 p.1).bind fun sl =>
      (toD (ev l sl t.2)).bind fun u => (stoD sl j u.1 q.1).map fun sl => .nx sl u.2) := rfl
theorem x_aug (i : Nat) (o : BOp) (e : CE) (sl : List SV) (ss : SS) : ex (.aug i o e) sl ss = ((toD (ev e sl ss)).bind fun p => (augD sl i o p.1).map fun sl => .nx sl p.2) := (rfl)
theorem x_augs (i : Nat) (k : CE) (o : BOp) (e : CE) (sl : List SV) (ss : SS) : ex (.augs i k o e) sl ss = ((toD (ev k sl ss)).bind fun p => (toD (ev e sl p.2)).bind fun q => (augsD sl i p.1 o q.1).map fun sl => .nx sl q.2) := (rfl)
theorem x_app (i : Nat) (e : CE) (sl : List SV) (ss : SS) : ex (.app i e) sl ss = ((toE (ev e sl ss)).bind fun p => (ownL sl[i]?).bind fun xs => if xs.length < SL then some (.nx (sl.set i (.own (xs ++ [p.1]))) p.2) else none) := (rfl)
theorem x_ext (i : Nat) (e : CE) (sl : List SV) (ss : SS) : ex (.ext i e) sl ss = ((toD (ev e sl ss)).bind fun p => (ownL sl[i]?).bind fun xs => match p.1 with
       | .list ys => if xs.length + ys.length ≤ SL then some (.nx (sl.set i (.own (xs ++ ys))) p.2) else none
       | _ => none) := rfl
theorem x_popS (j : Nat) (i : Nat) (k : CE) (sl : List SV) (ss : SS) : ex (.popS j i k) sl ss = ((toD (ev k sl ss)).bind fun p => (ownL sl[i]?).bind fun xs => (popAt (isNop k) xs p.1).bind fun q => (setS (sl.set i (.own q.2)) j (.v q.1)).map fun sl => .nx sl p.2) := (rfl)
theorem x_exp (e : CE) (sl : List SV) (ss : SS) : ex (.exp e) sl ss = ((ev e sl ss).bind fun p => some (.nx sl p.2)) := (rfl)
theorem x_ite (c : CE) (a : List CS) (b : List CS) (sl : List SV) (ss : SS) : ex (.ite c a b) sl ss = ((toB (ev c sl ss)).bind fun p => if p.1 then exs a sl p.2 else exs b sl p.2) := (rfl)
theorem x_forr (t : TGt) (it : CE) (body : List CS) (sl : List SV) (ss : SS) : ex (.forr t it body) sl ss = ((lockOf it).bind fun is => (toI (ev it sl ss)).bind fun p =>
         match forD (fun d sl' ss => (bindT t d sl').bind fun sl' => keptLocks (is.filter (isLock (lockAll is sl))) (exs body sl' ss)) p.1 (lockAll is sl) p.2 with
         | some (.nx sl' ss') => some (.nx (unlockAll (ownAll sl is) sl') ss')
         | r => r) := rfl
theorem x_whl (c : CE) (body : List CS) (sl : List SV) (ss : SS) : ex (.whl c body) sl ss = (whD (fun sl ss => toB (ev c sl ss)) (fun sl ss => exs body sl ss) FUEL sl ss) := (rfl)
theorem x_ret (e : CE) (sl : List SV) (ss : SS) : ex (.ret e) sl ss = (((ev e sl ss).f retR).bind fun p => some (.rt p.1 p.2)) := (rfl)
theorem x_retn  (sl : List SV) (ss : SS) : ex .retn sl ss = (some (.rt (.v .none) ss)) := rfl
theorem x_frz (i : Nat) (sl : List SV) (ss : SS) : ex (.frz i) sl ss = (some (.nx (frzS sl i) ss)) := (rfl)
theorem x_kill (js : List Nat) (sl : List SV) (ss : SS) : ex (.kill js) sl ss = (some (.nx (killS js sl) ss)) := (rfl)
theorem x_dput (i : Nat) (k : CE) (e : CE) (sl : List SV) (ss : SS) : ex (.dput i k e) sl ss = ((toE (ev e sl ss)).bind fun p => (toD (ev k sl p.2)).bind fun q => (dputD sl i q.1 p.1).map fun sl => .nx sl q.2) := (rfl)
/-! ### comprehensions, by their turns -/
def lcB (elt : CE) (tg : TGt) (cond : List CE) (sl : List SV) : D → SS → Option (Option D × SS) := fun d ss => (bindT tg d (killS tg.slots sl)).bind fun sl' => (toC (evs cond sl' ss)).bind fun q =>
      if q.1 then (toE (ev elt sl' q.2)).bind fun t => some (some t.1, t.2) else some (none, q.2)
theorem ev_lc (elt : CE) (tg : TGt) (it : CE) (cond : List CE) (sl : List SV) (ss : SS) : ev (.lc elt tg it cond) sl ss = (toI (ev it sl ss)).bind fun p => (lcD (lcB elt tg cond sl) p.1 p.2).bind fun q => if p.1.length ≤ SL then some (.fr q.1, q.2) else none := rfl
theorem lcD_pure {f : D → SS → Option (Option D × SS)} {g : D → Option D} {ss : SS} : ∀ {ds : List D}, (∀ d ∈ ds, f d ss = some (g d, ss)) → lcD f ds ss = some (ds.filterMap g, ss)
  | [], _ => rfl
  | d :: ds, h => by
    have h1 := h d List.mem_cons_self
    have ih := lcD_pure (ds := ds) fun x hx => h x (List.mem_cons_of_mem _ hx)
    unfold lcD
    rw [h1]
    cases e : g d with
    | none => rw [List.filterMap_cons_none e]; exact ih
    | some y => rw [List.filterMap_cons_some e]; show (lcD f ds ss).map _ = _; rw [ih]; rfl
theorem ev_lc_pure {elt : CE} {tg : TGt} {it : CE} {cond : List CE} {sl : List SV} {ss : SS} {ds : List D} {g : D → Option D} (hit : toI (ev it sl ss) = some (ds, ss)) (hl : ds.length ≤ SL) (hf : ∀ d ∈ ds, lcB elt tg cond sl d ss = some (g d, ss)) :
    ev (.lc elt tg it cond) sl ss = some (.fr (ds.filterMap g), ss) := by
  rw [ev_lc, hit]
  simp only [Option.bind_some]
  rw [lcD_pure hf]
  simp only [Option.bind_some]
  rw [if_pos hl]
/-- over iL, to iL -/
theorem ev_lc_ints {elt : CE} {tg : TGt} {it : CE} {cond : List CE} {sl : List SV} {ss : SS} {l : List Int} {g : Int → Option Int} (hit : toI (ev it sl ss) = some (iL l, ss)) (hl : l.length ≤ SL) (hf : ∀ i ∈ l, lcB elt tg cond sl (.int i) ss = some ((g i).map .int, ss)) :
    ev (.lc elt tg it cond) sl ss = some (.fr (iL (l.filterMap g)), ss) := by
  have := ev_lc_pure (elt := elt) (tg := tg) (cond := cond) (g := fun d => match d with | .int i => (g i).map .int | _ => none) hit (by simpa [iL] using hl) fun d hd => by
    obtain ⟨i, hi, rfl⟩ := List.mem_map.mp hd
    exact hf i hi
  rw [this]
  congr 3
  unfold iL
  rw [List.filterMap_map, List.map_filterMap]
  rfl
/-- over iL, all of them -/
theorem ev_lc_map {elt : CE} {tg : TGt} {it : CE} {cond : List CE} {sl : List SV} {ss : SS} {l : List Int} {g : Int → Int} (hit : toI (ev it sl ss) = some (iL l, ss)) (hl : l.length ≤ SL) (hf : ∀ i ∈ l, lcB elt tg cond sl (.int i) ss = some (some (.int (g i)), ss)) :
    ev (.lc elt tg it cond) sl ss = some (.fr (iL (l.map g)), ss) := by
  have := ev_lc_ints (g := fun i => some (g i)) hit hl hf
  rw [this]
  congr 3
  rw [← List.filterMap_eq_map]
  rfl
/-- over iL, some of them -/
theorem ev_lc_filter {elt : CE} {tg : TGt} {it : CE} {cond : List CE} {sl : List SV} {ss : SS} {l : List Int} {p : Int → Bool} (hit : toI (ev it sl ss) = some (iL l, ss)) (hl : l.length ≤ SL) (hf : ∀ i ∈ l, lcB elt tg cond sl (.int i) ss = some (if p i then some (.int i) else none, ss)) :
    ev (.lc elt tg it cond) sl ss = some (.fr (iL (l.filter p)), ss) := by
  have := ev_lc_ints (g := fun i => if p i then some i else none) hit hl fun i hi => by
    rw [hf i hi]
    cases p i <;> rfl
  rw [this]
  congr 3
  rw [← List.filterMap_eq_filter]
  rfl
/-- draws within a comprehension -/
theorem lcD_draw {f : D → SS → Option (Option D × SS)} {P : Int → Prop} : ∀ {ds : List D}, (∀ d ∈ ds, ∀ ss, SSok ss → ∃ r ss', f d ss = some (some (.int r), ss') ∧ SSok ss' ∧ P r) → ∀ ss, SSok ss → ∃ rs ss', lcD f ds ss = some (iL rs, ss') ∧ SSok ss' ∧ rs.length = ds.length ∧ ∀ r ∈ rs, P r
  | [], _, ss, ok => ⟨[], ss, rfl, ok, rfl, fun r hr => by cases hr⟩
  | d :: ds, h, ss, ok => by
    obtain ⟨r, s1, e1, ok1, p1⟩ := h d List.mem_cons_self ss ok
    obtain ⟨rs, s2, e2, ok2, hl, hp⟩ := lcD_draw (ds := ds) (fun x hx => h x (List.mem_cons_of_mem _ hx)) s1 ok1
    refine ⟨r :: rs, s2, ?_, ok2, by simp [hl], fun x hx => ?_⟩
    · unfold lcD
      rw [e1]
      simp only
      rw [e2]
      rfl
    · rcases List.mem_cons.mp hx with rfl | hx
      · exact p1
      · exact hp x hx
/-! ### for -/
theorem forD_fold {α : Type} {f : D → List SV → SS → Option Out} {S : α → List SV} {step : α → D → α} {ss : SS} : ∀ {ds : List D} (a : α), (∀ a, ∀ d ∈ ds, f d (S a) ss = some (.nx (S (step a d)) ss)) → forD f ds (S a) ss = some (.nx (S (ds.foldl step a)) ss)
  | [], a, _ => rfl
  | d :: ds, a, h => by
    unfold forD
    rw [h a d List.mem_cons_self]
    exact forD_fold (ds := ds) (step a d) fun b x hx => h b x (List.mem_cons_of_mem _ hx)
/-- a for that keeps an invariant; rest tells what is still to come -/
theorem forD_inv {f : D → List SV → SS → Option Out} {I : List D → List SV → SS → Prop} : ∀ {ds : List D} {sl : List SV} {ss : SS}, I ds sl ss → (∀ d r sl ss, I (d :: r) sl ss → ∃ sl' ss', f d sl ss = some (.nx sl' ss') ∧ I r sl' ss') → ∃ sl' ss', forD f ds sl ss = some (.nx sl' ss') ∧ I [] sl' ss'
  | [], sl, ss, h, _ => ⟨sl, ss, rfl, h⟩
  | d :: ds, sl, ss, h, st => by
    obtain ⟨sl1, s1, e1, h1⟩ := st d ds sl ss h
    obtain ⟨sl2, s2, e2, h2⟩ := forD_inv h1 st
    refine ⟨sl2, s2, ?_, h2⟩
    unfold forD
    rw [e1]
    exact e2
/-- a for over what is no list of the frame's own -/
theorem lockAll_id : ∀ {is : List Nat} {sl : List SV}, (∀ i ∈ is, isOwn sl i = false) → lockAll is sl = sl
  | [], _, _ => rfl
  | i :: is, sl, h => by
    have h1 := h i List.mem_cons_self
    have : lockS sl i = sl := by
      unfold lockS
      unfold isOwn at h1
      split
      · rename_i q; rw [q] at h1; cases h1
      · rfl
    unfold lockAll
    rw [this]
    exact lockAll_id fun j hj => h j (List.mem_cons_of_mem _ hj)
theorem unlockAll_id : ∀ {is : List Nat} {sl0 sl : List SV}, (∀ i ∈ is, isOwn sl0 i = false) → unlockAll (ownAll sl0 is) sl = sl
  | [], _, _, _ => rfl
  | i :: is, sl0, sl, h => by
    unfold ownAll
    rw [List.map_cons, h i List.mem_cons_self]
    unfold unlockAll
    have e : unlockS false sl i = sl := by unfold unlockS; split <;> first | rfl | contradiction
    rw [e]
    exact unlockAll_id (is := is) fun j hj => h j (List.mem_cons_of_mem _ hj)
theorem x_for {t : TGt} {it : CE} {body : List CS} {sl : List SV} {ss ss1 : SS} {is : List Nat} {ds : List D} (h1 : lockOf it = some is) (h2 : toI (ev it sl ss) = some (ds, ss1)) (h3 : ∀ i ∈ is, isOwn sl i = false ∧ isLock sl i = false) :
    ex (.forr t it body) sl ss = forD (fun d sl' ss' => (bindT t d sl').bind fun sl' => exs body sl' ss') ds sl ss1 := by
  have l0 := lockAll_id (is := is) (sl := sl) fun i hi => (h3 i hi).1
  have f0 : is.filter (isLock sl) = [] := by
    rw [List.filter_eq_nil_iff]
    intro i hi q
    rw [(h3 i hi).2] at q; cases q
  have k0 : ∀ x : Option Out, keptLocks [] x = x := fun x => by
    cases x with
    | none => rfl
    | some o => cases o <;> rfl
  rw [x_forr, h1]
  simp only [Option.bind_some, h2, l0, f0, k0]
  cases e : forD (fun d sl' ss' => (bindT t d sl').bind fun sl' => exs body sl' ss') ds sl ss1 with
  | none => rfl
  | some o =>
    cases o with
    | nx sl' ss' => simp only [unlockAll_id (is := is) (sl0 := sl) fun i hi => (h3 i hi).1]
    | rt r ss' => rfl
/-- a for over a list of the frame's own, by its name -/
theorem x_forO {t : TGt} {i : Nat} {body : List CS} {sl : List SV} {ss : SS} {xs : List D} (h : sl[i]? = some (.own xs)) :
    ex (.forr t (.loc i) body) sl ss = match forD (fun d sl' ss' => (bindT t d sl').bind fun sl' => keptLocks [i] (exs body sl' ss')) xs (sl.set i (.lock xs)) ss with
      | some (.nx sl' ss') => some (.nx (unlockS true sl' i) ss')
      | r => r := by
  have hi : i < sl.length := (List.getElem?_eq_some_iff.mp h).1
  have e1 : lockAll [i] sl = sl.set i (.lock xs) := by
    show lockS sl i = _
    unfold lockS
    rw [h]
  have e2 : [i].filter (isLock (sl.set i (.lock xs))) = [i] := by
    rw [List.filter_cons_of_pos]
    · rfl
    · unfold isLock
      rw [List.getElem?_set_self hi]
  have e3 : toI (ev (.loc i) sl ss) = some (xs, ss) := by
    simp [e_loc, toI, O.f, getR, h, slR, itR, rd, seqOf]
  have e4 : ownAll sl [i] = [(i, true)] := by
    unfold ownAll isOwn
    simp [h]
  rw [x_forr]
  show (some [i]).bind _ = _
  simp only [Option.bind_some, e3, e1, e2, e4]
  cases e : forD (fun d sl' ss' => (bindT t d sl').bind fun sl' => keptLocks [i] (exs body sl' ss')) xs (sl.set i (.lock xs)) ss with
  | none => rfl
  | some o => cases o <;> rfl
def rgL (n : Nat) : List Int := (List.range n).map fun (k : Nat) => (k : Int)
theorem rgL_len (n : Nat) : (rgL n).length = n := by simp [rgL]
theorem rg1_ok {e : CE} {sl : List SV} {ss ss' : SS} {n : Nat} (h : toD (ev e sl ss) = some (.int n, ss')) (hn : n ≤ SL) : toI (ev (.rg1 e) sl ss) = some (iL (rgL n), ss') := by
  have hS : SL = 16777216 := rfl
  simp only [ev]
  rw [h]
  simp only [O.f, Option.bind_some, rg1D, range_ints]
  rw [if_pos ⟨by omega, by omega⟩]
  rfl
/-! ### a while that comes to its end -/
theorem whD_run {c : List SV → SS → O Bool} {f : List SV → SS → Option Out} {S : Nat → List SV} {ss : SS} : ∀ (k j n : Nat), k < n → (∀ i, j ≤ i → i < j + k → c (S i) ss = some (true, ss) ∧ f (S i) ss = some (.nx (S (i + 1)) ss)) → c (S (j + k)) ss = some (false, ss) → whD c f n (S j) ss = some (.nx (S (j + k)) ss)
  | 0, j, n, hn, _, h => by
    cases n with
    | zero => omega
    | succ n =>
      rw [Nat.add_zero] at h ⊢
      unfold whD
      rw [h]
      rfl
  | k + 1, j, n, hn, hs, h => by
    cases n with
    | zero => omega
    | succ n =>
      obtain ⟨h1, h2⟩ := hs j (Nat.le_refl _) (by omega)
      unfold whD
      rw [h1]
      simp only [Option.bind_some, if_true]
      rw [h2]
      have e : j + (k + 1) = (j + 1) + k := by omega
      rw [e] at h ⊢
      exact whD_run k (j + 1) n (by omega) (fun i a b => hs i (by omega) (by omega)) h
/-! ### repr -/
/-- its text is short -/
def reprOk (d : D) : Bool := d.showable && decide (d.depth ≤ 64) && d.leavesShort 13 && decide (d.weight ≤ 1048576)
theorem reprD_of {d : D} (h : reprOk d = true) : reprD [d] = some (.v (.str d.shown)) := by
  unfold reprOk at h
  simp only [Bool.and_eq_true, decide_eq_true_eq] at h
  obtain ⟨⟨⟨h1, h2⟩, h3⟩, h4⟩ := h
  unfold reprD
  have := PyData.shown_fits (B := 13) (by decide) (by decide) h3 h4
  rw [SL_eq] at this
  exact if_pos ⟨h1, this, h2⟩
theorem log_le {i : Int} {k : Nat} (h : i.natAbs < 2 ^ k) : i.natAbs.log2 ≤ k := by
  by_cases hz : i.natAbs = 0
  · rw [hz]; simp
  · have := (Nat.log2_lt hz).mpr h
    omega
theorem weight_int {i : Int} (h : i.natAbs < 1073741824) : PyData.weight (.int i) ≤ 31 := by
  unfold PyData.weight
  split
  · omega
  · have := log_le (i := i) (k := 30) (by omega)
    omega
theorem reprOk_int {i : Int} (h : i.natAbs < 1073741824) : reprOk (.int i) = true := by
  unfold reprOk
  simp only [Bool.and_eq_true, decide_eq_true_eq]
  have := weight_int h
  have := log_le (i := i) (k := 30) (by omega)
  refine ⟨⟨⟨?_, by simp [PyData.depth]⟩, PyData.leavesShort_of_canLay0 13 _ rfl ?_⟩, by omega⟩
  · simp only [PyData.showable, decide_eq_true_eq]; omega
  · simp only [PyData.intsShort, decide_eq_true_eq]
    exact PyData.shown_int_le (by omega)
theorem reprOk_bool (b : Bool) : reprOk (.bool b) = true := by cases b <;> decide +kernel
theorem showable_ints : ∀ l : List Int, (∀ i ∈ l, i.natAbs < 1073741824) → PyData.showableAll (iL l) = true
  | [], _ => by simp [PyData.showableAll, iL]
  | i :: l, h => by
    have := showable_ints l fun x hx => h x (List.mem_cons_of_mem _ hx)
    simp only [iL] at this
    have h1 := h i List.mem_cons_self
    have := log_le (i := i) (k := 30) (by omega)
    simp only [iL, List.map_cons, PyData.showableAll, PyData.showable, Bool.and_eq_true, decide_eq_true_eq]
    exact ⟨by omega, by assumption⟩
theorem weight_ints : ∀ l : List Int, (∀ i ∈ l, i.natAbs < 1073741824) → PyData.weightAll (iL l) ≤ 32 * l.length
  | [], _ => by simp [PyData.weightAll, iL]
  | i :: l, h => by
    have h2 := weight_ints l fun x hx => h x (List.mem_cons_of_mem _ hx)
    have h1 := weight_int (h i List.mem_cons_self)
    simp only [iL] at h2
    simp only [iL, List.map_cons, PyData.weightAll, List.length_cons]
    omega
theorem reprOk_tup {l : List Int} (h : ∀ i ∈ l, i.natAbs < 1073741824) (hl : l.length ≤ 32768) : reprOk (.tuple (iL l)) = true := by
  unfold reprOk
  simp only [Bool.and_eq_true, decide_eq_true_eq]
  have hw := weight_ints l h
  refine ⟨⟨⟨?_, by rw [PyData.depth, depthAll_ints]; omega⟩, PyData.leavesShort_of_canLay0 13 _ ?_ ?_⟩, ?_⟩
  · rw [PyData.showable]; exact showable_ints l h
  · rw [PyData.canLay0]; exact canLay_ints l
  · rw [PyData.intsShort]; exact PyData.intsShortAll_ints l fun n hn => by have := h n hn; omega
  · rw [PyData.weight]; omega
/-! ### things in a drawn order -/
theorem popD_ok {xs : List D} {k : Int} (h0 : 0 ≤ k) (h1 : k < xs.length) (hl : xs.length ≤ SL) : ∃ d, xs[k.toNat]? = some d ∧ popAt false xs (.int k) = some (d, xs.eraseIdx k.toNat) := by
  have hk : k.toNat < xs.length := by omega
  refine ⟨xs[k.toNat], List.getElem?_eq_getElem hk, ?_⟩
  have hS : SL = 16777216 := rfl
  unfold popAt
  simp only
  rw [if_pos ⟨by omega, by omega⟩]
  have e : ixN xs.length k = some k.toNat := by
    show L2.ixN xs.length k = _
    unfold L2.ixN
    first
      | rfl
      | (simp; omega)
      | (split <;> simp_all <;> omega)
  rw [e]
  simp only [Option.bind_some]
  rw [List.getElem?_eq_getElem hk]
  rfl
theorem erase_perm {α : Type} : ∀ {xs : List α} {i : Nat} (h : i < xs.length), (xs[i] :: xs.eraseIdx i).Perm xs
  | [], i, h => by simp at h
  | x :: xs, 0, h => by simp
  | x :: xs, i + 1, h => by
    have := erase_perm (xs := xs) (i := i) (by simp at h; omega)
    simp only [List.getElem_cons_succ, List.eraseIdx_cons_succ]
    exact (List.Perm.swap _ _ _).trans (this.cons x)
theorem mix_ok : ∀ (n : Nat) (xs : List D) (ss : SS), xs.length = n → n ≤ SL → SSok ss → ∃ ys ss', mixD F_pick n xs ss = some (ys, ss') ∧ SSok ss' ∧ ys.Perm xs
  | 0, xs, ss, h, _, ok => by
    cases xs with
    | nil => exact ⟨[], ss, rfl, ok, .refl _⟩
    | cons _ _ => simp at h
  | n + 1, xs, ss, h, hl, ok => by
    have hS : SL = 16777216 := rfl
    obtain ⟨r, s1, e1, ok1, p1, p2⟩ := pick_ok xs.length (by omega) ss ok
    obtain ⟨d, e2, e3⟩ := popD_ok (xs := xs) (k := r) p1 (by omega) (by omega)
    obtain ⟨ys, s2, e4, ok2, pm⟩ := mix_ok n (xs.eraseIdx r.toNat) s1 (by rw [List.length_eraseIdx]; split <;> omega) (by omega) ok1
    refine ⟨d :: ys, s2, ?_, ok2, ?_⟩
    · unfold mixD
      rw [e1]
      simp only [Option.bind_some]
      rw [e3]
      simp only [Option.bind_some]
      rw [e4]
      rfl
    · have hlt : r.toNat < xs.length := by omega
      have e5 : xs[r.toNat] = d := by
        rw [List.getElem?_eq_getElem hlt] at e2
        exact Option.some.inj e2
      refine (pm.cons d).trans ?_
      rw [← e5]
      exact erase_perm hlt
def B_mixed : List CS := [.set 2 (.bi .list [(.loc 1)]), .rmix 2 0 3 "_law_pick" F_pick]
def F_mixed : Fn := runF 2 4 B_mixed
theorem mixed_ok {xs : List D} {d : D} (hd : seqOf d = some xs) (hl : xs.length ≤ SL) (ss : SS) (ok : SSok ss) : ∃ ys ss', F_mixed [.src, .v d] ss = some (.fr ys, ss') ∧ SSok ss' ∧ ys.Perm xs := by
  obtain ⟨ys, s1, e1, ok1, pm⟩ := mix_ok xs.length xs ss rfl hl ok
  refine ⟨ys, s1, ?_, ok1, pm⟩
  refine (runF_eq (np := 2) (N := 4) (body := B_mixed) (args := [.src, .v d]) rfl).trans ?_
  simp only [B_mixed, List.map_cons, List.map_nil, AV.sv]
  have h1 : ex (.set 2 (.bi .list [(.loc 1)])) [.src, .v d, .un, .un] ss = some (.nx [.src, .v d, .own xs, .un] ss) := by
    simp [ex, ev, evs, toDs, O.f, rds, rd, biD, listD, hd, toSet, toS, setS, getR, slR]
  have h2 : ex (.rmix 2 0 3 "_law_pick" F_pick) [.src, .v d, .own xs, .un] ss = some (.rt (.fr ys) s1) := by
    simp [ex, ownL, isSrc, hl, e1]
  show outF (exs _ [.src, .v d, .un, .un] ss) = _
  rw [exs_nx h1, exs_rt h2]
  rfl
end Pm
namespace Pm
open PySem
/-! ### rules by premises; pv walks by them -/
section
variable {a b c : CE} {sl sl1 sl' : List SV} {ss s1 s2 s3 : SS} {x y z d : D} {ra rb rc r : R} {j k : Bool} {rs : List R} {ds : List D} {es : List CE}
/-- the second part of and, or, a comparison, what a condition leads to -/
def andK (j : Bool) (b : CE) (sl : List SV) (ss : SS) : O R := if j then (toB (ev b sl ss)).bind fun q => some (bl q.1, q.2) else some (bl false, ss)
def orK (j : Bool) (b : CE) (sl : List SV) (ss : SS) : O R := if j then some (bl true, ss) else (toB (ev b sl ss)).bind fun q => some (bl q.1, q.2)
def cmpK (j : Bool) (o : COp) (y : D) (c : CE) (sl : List SV) (ss : SS) : O R := if j then (toD (ev c sl ss)).bind fun t => (cmpD o y t.1).map fun r => (bl r, t.2) else some (bl false, ss)
def ifK (j : Bool) (a b : CE) (sl : List SV) (ss : SS) : O R := if j then ev a sl ss else ev b sl ss
def iteK (j : Bool) (a b : List CS) (sl : List SV) (ss : SS) : Option Out := if j then exs a sl ss else exs b sl ss
def contK (o : Out) (cs : List CS) : Option Out := match o with
  | .nx sl ss => exs cs sl ss
  | .rt r ss => some (.rt r ss)
theorem tb_of (h : ev a sl ss = some (ra, s1)) (hj : asB ra = some j) : toB (ev a sl ss) = some (j, s1) := by
  unfold toB O.f; rw [h]; simp only [Option.bind_some, hj, Option.map_some]
theorem td_of (h : ev a sl ss = some (ra, s1)) (hj : rd ra = some x) : toD (ev a sl ss) = some (x, s1) := by
  unfold toD O.f; rw [h]; simp only [Option.bind_some, hj, Option.map_some]
theorem te_of (h : ev a sl ss = some (ra, s1)) (hj : esc ra = some x) : toE (ev a sl ss) = some (x, s1) := by
  unfold toE O.f; rw [h]; simp only [Option.bind_some, hj, Option.map_some]
theorem ti_of (h : ev a sl ss = some (ra, s1)) (hj : itR ra = some ds) : toI (ev a sl ss) = some (ds, s1) := by
  unfold toI O.f; rw [h]; simp only [Option.bind_some, hj, Option.map_some]
theorem p_lit : ev (.lit d) sl ss = some (.v d, ss) := rfl
theorem p_glo {x : Str} : ev (.glo x d) sl ss = some (.v d, ss) := rfl
theorem p_nop : ev .nop sl ss = some (.v .none, ss) := rfl
theorem p_loc {i : Nat} (h : getR sl i = some r) : ev (.loc i) sl ss = some (r, ss) := by rw [e_loc, h]; rfl
theorem p_bin {o : BOp} (ha : ev a sl ss = some (ra, s1)) (hx : rd ra = some x) (hb : ev b sl s1 = some (rb, s2)) (hy : rd rb = some y) (h : binD o x y = some r) : ev (.bin o a b) sl ss = some (r, s2) := by
  rw [e_bin, td_of ha hx]; simp only [Option.bind_some, td_of hb hy, h, Option.map_some]
theorem p_neg (ha : ev a sl ss = some (ra, s1)) (hx : rd ra = some x) (h : negD x = some r) : ev (.neg a) sl ss = some (r, s1) := by
  rw [e_neg, td_of ha hx]; simp only [O.f, Option.bind_some, h, Option.map_some]
theorem p_not (ha : ev a sl ss = some (ra, s1)) (hj : asB ra = some j) (hk : (!j) = k) : ev (.not a) sl ss = some (bl k, s1) := by
  rw [e_not, tb_of ha hj, ← hk]; rfl
theorem p_and (ha : ev a sl ss = some (ra, s1)) (hj : asB ra = some j) (hk : andK j b sl s1 = some (r, s2)) : ev (.and a b) sl ss = some (r, s2) := by
  rw [e_and, tb_of ha hj]; exact hk
theorem k_andF : andK false b sl ss = some (bl false, ss) := rfl
theorem k_andT (hb : ev b sl ss = some (rb, s1)) (hk : asB rb = some k) : andK true b sl ss = some (bl k, s1) := by
  unfold andK; rw [tb_of hb hk]; rfl
theorem k_and (hb : ev b sl ss = some (rb, ss)) (hk : asB rb = some k) : andK j b sl ss = some (bl (j && k), ss) := by
  unfold andK; rw [tb_of hb hk]; cases j <;> rfl
theorem p_or (ha : ev a sl ss = some (ra, s1)) (hj : asB ra = some j) (hk : orK j b sl s1 = some (r, s2)) : ev (.or a b) sl ss = some (r, s2) := by
  rw [e_or, tb_of ha hj]; exact hk
theorem k_orT : orK true b sl ss = some (bl true, ss) := rfl
theorem k_orF (hb : ev b sl ss = some (rb, s1)) (hk : asB rb = some k) : orK false b sl ss = some (bl k, s1) := by
  unfold orK; rw [tb_of hb hk]; rfl
theorem k_or (hb : ev b sl ss = some (rb, ss)) (hk : asB rb = some k) : orK j b sl ss = some (bl (j || k), ss) := by
  unfold orK; rw [tb_of hb hk]; cases j <;> rfl
theorem p_cmp {o : COp} (ha : ev a sl ss = some (ra, s1)) (hx : rd ra = some x) (hb : ev b sl s1 = some (rb, s2)) (hy : rd rb = some y) (h : cmpD o x y = some k) : ev (.cmp o a b) sl ss = some (bl k, s2) := by
  rw [e_cmp, td_of ha hx]; simp only [Option.bind_some, td_of hb hy, h, Option.map_some]
theorem p_cmp2 {o o' : COp} (ha : ev a sl ss = some (ra, s1)) (hx : rd ra = some x) (hb : ev b sl s1 = some (rb, s2)) (hy : rd rb = some y) (h : cmpD o x y = some j) (hk : cmpK j o' y c sl s2 = some (r, s3)) : ev (.cmp2 o o' a b c) sl ss = some (r, s3) := by
  rw [e_cmp2, td_of ha hx]; simp only [Option.bind_some, td_of hb hy, h]; exact hk
theorem k_cmpF {o : COp} : cmpK false o y c sl ss = some (bl false, ss) := rfl
theorem k_cmpT {o : COp} (hc : ev c sl ss = some (rc, s1)) (hz : rd rc = some z) (h : cmpD o y z = some k) : cmpK true o y c sl ss = some (bl k, s1) := by
  unfold cmpK; rw [td_of hc hz]; simp only [Option.bind_some, h, Option.map_some, if_true]
theorem k_cmp {o : COp} (hc : ev c sl ss = some (rc, ss)) (hz : rd rc = some z) (h : cmpD o y z = some k) : cmpK j o y c sl ss = some (bl (j && k), ss) := by
  unfold cmpK; rw [td_of hc hz]; simp only [Option.bind_some, h, Option.map_some]; cases j <;> rfl
theorem p_ife (hc : ev c sl ss = some (rc, s1)) (hj : asB rc = some j) (hk : ifK j a b sl s1 = some (r, s2)) : ev (.ife c a b) sl ss = some (r, s2) := by
  rw [e_ife, tb_of hc hj]; exact hk
theorem k_ifT (h : ev a sl ss = some (r, s1)) : ifK true a b sl ss = some (r, s1) := h
theorem k_ifF (h : ev b sl ss = some (r, s1)) : ifK false a b sl ss = some (r, s1) := h
theorem p_nil : evs [] sl ss = some ([], ss) := rfl
theorem p_cons (ha : ev a sl ss = some (ra, s1)) (h : evs es sl s1 = some (rs, s2)) : evs (a :: es) sl ss = some (ra :: rs, s2) := by
  rw [es_cons, ha]; simp only [Option.bind_some, h]
theorem p_tup (he : evs es sl ss = some (rs, s1)) (hd : dispR rs = some ds) (hl : ds.length ≤ SL) : ev (.tup es) sl ss = some (.v (.tuple ds), s1) := by
  rw [e_tup, he]; unfold toX O.f; simp only [Option.bind_some, hd, Option.map_some, hl, if_true]
theorem p_lst (he : evs es sl ss = some (rs, s1)) (hd : dispR rs = some ds) (hl : ds.length ≤ SL) : ev (.lst es) sl ss = some (.fr ds, s1) := by
  rw [e_lst, he]; unfold toX O.f; simp only [Option.bind_some, hd, Option.map_some, hl, if_true]
theorem p_rg1 (ha : ev a sl ss = some (ra, s1)) (hx : rd ra = some x) (h : rg1D x = some r) : ev (.rg1 a) sl ss = some (r, s1) := by
  rw [e_rg1, td_of ha hx]; simp only [O.f, Option.bind_some, h, Option.map_some]
theorem p_rg2 (ha : ev a sl ss = some (ra, s1)) (hx : rd ra = some x) (hb : ev b sl s1 = some (rb, s2)) (hy : rd rb = some y) (h : rg2D x y = some r) : ev (.rg2 a b) sl ss = some (r, s2) := by
  rw [e_rg2, td_of ha hx]; simp only [Option.bind_some, td_of hb hy, h, Option.map_some]
theorem p_enm (ha : ev a sl ss = some (ra, s1)) (hx : rd ra = some x) (h : enD x = some r) : ev (.enm a) sl ss = some (r, s1) := by
  rw [e_enm, td_of ha hx]; simp only [O.f, Option.bind_some, h, Option.map_some]
theorem p_zip (ha : ev a sl ss = some (ra, s1)) (hx : rd ra = some x) (hb : ev b sl s1 = some (rb, s2)) (hy : rd rb = some y) (h : zipD x y = some r) : ev (.zip a b) sl ss = some (r, s2) := by
  rw [e_zip, td_of ha hx]; simp only [Option.bind_some, td_of hb hy, h, Option.map_some]
theorem p_rev (ha : ev a sl ss = some (ra, s1)) (hx : rd ra = some x) (h : revD x = some r) : ev (.rev a) sl ss = some (r, s1) := by
  rw [e_rev, td_of ha hx]; simp only [O.f, Option.bind_some, h, Option.map_some]
theorem p_star (ha : ev a sl ss = some (ra, s1)) (hx : itR ra = some ds) : ev (.star a) sl ss = some (.st ds, s1) := by
  rw [e_star, ti_of ha hx]; rfl
theorem p_idx (ha : ev a sl ss = some (ra, s1)) (hx : rd ra = some x) (hb : ev b sl s1 = some (rb, s2)) (hy : rd rb = some y) (h : idxD x y = some d) : ev (.idx a b) sl ss = some (.v d, s2) := by
  rw [e_idx, td_of ha hx]; simp only [Option.bind_some, td_of hb hy, h, Option.map_some]
theorem tp_nop : toP .nop (some (.v .none, ss)) = some (.none, ss) := rfl
theorem tp_int {i : Int} (hn : isNop a = false) (ha : ev a sl ss = some (ra, s1)) (hx : rd ra = some (.int i)) : toP a (ev a sl ss) = some (.int i, s1) := by
  have : rdInt ra = some (.int i) := by unfold rdInt; rw [hx]
  unfold toP; rw [hn, ha]; simp only [O.f, Option.bind_some, this, Option.map_some]
/-- x[:b], x[a:], x[a:b] -/
theorem p_sliB {i : Int} (ha : ev a sl ss = some (ra, s1)) (hx : rd ra = some x) (hn : isNop b = false) (hb : ev b sl s1 = some (rb, s2)) (hy : rd rb = some (.int i)) (h : sliD x .none (.int i) = some r) : ev (.sli a .nop b) sl ss = some (r, s2) := by
  have t := tp_int hn hb hy
  have n : toP .nop (ev .nop sl s1) = some (.none, s1) := rfl
  rw [e_sli, td_of ha hx]; simp only [Option.bind_some, n, t, h, Option.map_some]
theorem p_sliA {i : Int} (ha : ev a sl ss = some (ra, s1)) (hx : rd ra = some x) (hn : isNop b = false) (hb : ev b sl s1 = some (rb, s2)) (hy : rd rb = some (.int i)) (h : sliD x (.int i) .none = some r) : ev (.sli a b .nop) sl ss = some (r, s2) := by
  have t := tp_int hn hb hy
  have n : toP .nop (ev .nop sl s2) = some (.none, s2) := rfl
  rw [e_sli, td_of ha hx]; simp only [Option.bind_some, n, t, h, Option.map_some]
theorem p_sli {i i' : Int} (ha : ev a sl ss = some (ra, s1)) (hx : rd ra = some x) (hn : isNop b = false) (hb : ev b sl s1 = some (rb, s2)) (hy : rd rb = some (.int i)) (hn' : isNop c = false) (hc : ev c sl s2 = some (rc, s3)) (hz : rd rc = some (.int i')) (h : sliD x (.int i) (.int i') = some r) : ev (.sli a b c) sl ss = some (r, s3) := by
  have t := tp_int hn hb hy
  have t' := tp_int hn' hc hz
  rw [e_sli, td_of ha hx]; simp only [Option.bind_some, t, t', h, Option.map_some]
theorem p_bi {f : Bi} (he : evs es sl ss = some (rs, s1)) (hd : rds rs = some ds) (h : biD f ds = some r) : ev (.bi f es) sl ss = some (r, s1) := by
  rw [e_bi, he]; simp only [toDs, O.f, Option.bind_some, hd, Option.map_some, h]
theorem p_met {m : Me} (ha : ev a sl ss = some (ra, s1)) (hx : rd ra = some x) (he : evs es sl s1 = some (rs, s2)) (hd : rds rs = some ds) (h : meD m x ds = some r) : ev (.met m a es) sl ss = some (r, s2) := by
  rw [e_met, td_of ha hx]; simp only [toDs, O.f, Option.bind_some, he, hd, Option.map_some, h]
theorem p_call {n : Str} {f : Fn} {as : List AV} (he : evs es sl ss = some (rs, s1)) (ha : toAs rs = some as) (hf : f as s1 = some (r, s2)) (ho : isOut r = true) (hb : (rs.any isBo && !r.lf) = false) : ev (.call n f es) sl ss = some (r, s2) := by
  rw [e_call, he]
  simp only [Option.bind_some, callD, ha, hf]
  rw [if_pos]
  refine ⟨ho, fun q => ?_⟩
  rw [q] at hb
  cases e : r.lf with
  | true => rfl
  | false => rw [e] at hb; cases hb
theorem p_sget {q : SK} {i : Nat} (h : isSrc sl i = true) : ev (.sget q i) sl ss = some (.v (.int (ss.get q)), ss) := by rw [e_sget, h]
theorem p_slen {i : Nat} (h : isSrc sl i = true) : ev (.slen i) sl ss = some (.v (.int ss.cells.length), ss) := by rw [e_slen, h]
theorem p_newk : ev .newk sl ss = some (.nk [], ss) := rfl
theorem p_dhas {i : Nat} (ha : ev a sl ss = some (ra, s1)) (hx : rd ra = some x) (h : dhasD j sl i x = some r) : ev (.dhas j a i) sl ss = some (r, s1) := by
  rw [e_dhas, td_of ha hx]; simp only [O.f, Option.bind_some, h, Option.map_some]
theorem p_dget {i : Nat} (ha : ev a sl ss = some (ra, s1)) (hx : rd ra = some x) (h : dgetD sl i x = some r) : ev (.dget i a) sl ss = some (r, s1) := by
  rw [e_dget, td_of ha hx]; simp only [O.f, Option.bind_some, h, Option.map_some]
theorem p_dget2 {i : Nat} (ha : ev a sl ss = some (ra, s1)) (hx : rd ra = some x) (hb : ev b sl s1 = some (rb, s2)) (hy : esc rb = some y) (h : dget2D sl i x y = some r) : ev (.dget2 i a b) sl ss = some (r, s2) := by
  rw [e_dget2, td_of ha hx]; simp only [Option.bind_some, te_of hb hy, h, Option.map_some]
/-! statements -/
theorem q_nil : exs [] sl ss = some (.nx sl ss) := rfl
theorem q_cons {s : CS} {cs : List CS} {o o' : Out} (h : ex s sl ss = some o) (h' : contK o cs = some o') : exs (s :: cs) sl ss = some o' := by
  rw [exs_cons, h]; cases o <;> exact h'
theorem k_nx {cs : List CS} {o : Out} (h : exs cs sl ss = some o) : contK (.nx sl ss) cs = some o := h
theorem k_rt {cs : List CS} : contK (.rt r ss) cs = some (.rt r ss) := rfl
theorem k_rt' {cs : List CS} {r' : R} (h : r = r') : contK (.rt r ss) cs = some (.rt r' ss) := by rw [h]; rfl
theorem set_0 {s s' : SV} {l : List SV} : (s :: l).set 0 s' = s' :: l := rfl
theorem set_1 {s s' : SV} {l l' : List SV} {i : Nat} (h : l.set i s' = l') : (s :: l).set (i + 1) s' = s :: l' := by rw [← h]; rfl
theorem q_set {i : Nat} {s : SV} (h : ev a sl ss = some (r, s1)) (hr : toS r = some s) (hi : i < sl.length) (hs : sl.set i s = sl') : ex (.set i a) sl ss = some (.nx sl' s1) := by
  rw [x_set, h]; simp only [toSet, Option.bind_some, hr, setS, hi, if_true, Option.map_some, hs]
theorem q_unp {t : TGt} (h : ev a sl ss = some (ra, s1)) (hx : rd ra = some x) (hb : bindT t x sl = some sl') : ex (.unp t a) sl ss = some (.nx sl' s1) := by
  rw [x_unp, td_of h hx]; simp only [Option.bind_some, hb, Option.map_some]
theorem q_par {js : List Nat} {vs : List SV} (he : evs es sl ss = some (rs, s1)) (hs : toSs rs = some vs) (hb : setAll js vs sl = some sl') : ex (.par js es) sl ss = some (.nx sl' s1) := by
  rw [x_par, he]; simp only [O.f, Option.bind_some, hs, Option.map_some, hb]
theorem sa_nil : setAll [] [] sl = some sl := rfl
theorem sa_cons {i : Nat} {s : SV} {js : List Nat} {vs : List SV} (hi : i < sl.length) (hs : sl.set i s = sl1) (h : setAll js vs sl1 = some sl') : setAll (i :: js) (s :: vs) sl = some sl' := by
  unfold setAll setS; rw [if_pos hi, hs]; exact h
theorem b_one {i : Nat} (hi : i < sl.length) (hs : sl.set i (.v d) = sl') : bindT (.one i) d sl = some sl' := by
  unfold bindT setS; rw [if_pos hi, hs]
theorem b_tup {ts : List TGt} (h : bindTs ts ds sl = some sl') : bindT (.tup ts) (.tuple ds) sl = some sl' := by
  unfold bindT; exact h
theorem b_nil : bindTs [] [] sl = some sl := by simp [bindTs]
theorem b_cons {t : TGt} {ts : List TGt} (h : bindT t d sl = some sl1) (h' : bindTs ts ds sl1 = some sl') : bindTs (t :: ts) (d :: ds) sl = some sl' := by
  rw [bindTs, h]; exact h'
theorem q_aug {i : Nat} {o : BOp} (h : ev a sl ss = some (ra, s1)) (hx : rd ra = some x) (hb : augD sl i o x = some sl') : ex (.aug i o a) sl ss = some (.nx sl' s1) := by
  rw [x_aug, td_of h hx]; simp only [Option.bind_some, hb, Option.map_some]
theorem q_sto {i : Nat} (h : ev a sl ss = some (ra, s1)) (hx : esc ra = some x) (hb : ev b sl s1 = some (rb, s2)) (hy : rd rb = some y) (hs : stoD sl i y x = some sl') : ex (.sto i b a) sl ss = some (.nx sl' s2) := by
  rw [x_sto, te_of h hx]; simp only [Option.bind_some, td_of hb hy, hs, Option.map_some]
theorem q_augs {i : Nat} {o : BOp} (h : ev a sl ss = some (ra, s1)) (hx : rd ra = some x) (hb : ev b sl s1 = some (rb, s2)) (hy : rd rb = some y) (hs : augsD sl i x o y = some sl') : ex (.augs i a o b) sl ss = some (.nx sl' s2) := by
  rw [x_augs, td_of h hx]; simp only [Option.bind_some, td_of hb hy, hs, Option.map_some]
theorem q_app {i : Nat} {xs : List D} (h : ev a sl ss = some (ra, s1)) (hx : esc ra = some x) (ho : ownL sl[i]? = some xs) (hl : xs.length < SL) (hs : sl.set i (.own (xs ++ [x])) = sl') : ex (.app i a) sl ss = some (.nx sl' s1) := by
  rw [x_app, te_of h hx]; simp only [Option.bind_some, ho, hl, if_true, hs]
theorem q_exp (h : ev a sl ss = some (r, s1)) : ex (.exp a) sl ss = some (.nx sl s1) := by
  rw [x_exp, h]; rfl
theorem q_ite {u v : List CS} {o : Out} (hc : ev c sl ss = some (rc, s1)) (hj : asB rc = some j) (hk : iteK j u v sl s1 = some o) : ex (.ite c u v) sl ss = some o := by
  rw [x_ite, tb_of hc hj]; exact hk
theorem k_iteT {u v : List CS} {o : Out} (h : exs u sl ss = some o) : iteK true u v sl ss = some o := h
theorem k_iteF {u v : List CS} {o : Out} (h : exs v sl ss = some o) : iteK false u v sl ss = some o := h
theorem q_ret {r' : R} (h : ev a sl ss = some (r, s1)) (hr : retR r = some r') : ex (.ret a) sl ss = some (.rt r' s1) := by
  rw [x_ret, h]; simp only [O.f, Option.bind_some, hr, Option.map_some]
theorem q_retn : ex .retn sl ss = some (.rt (.v .none) ss) := rfl
theorem q_frz {i : Nat} (h : frzS sl i = sl') : ex (.frz i) sl ss = some (.nx sl' ss) := by rw [x_frz, h]
theorem q_kill {js : List Nat} (h : killS js sl = sl') : ex (.kill js) sl ss = some (.nx sl' ss) := by rw [x_kill, h]
theorem fz_id {i : Nat} (h : isOwn sl i = false) : frzS sl i = sl := by
  unfold frzS isOwn at *
  split
  · rename_i q; rw [q] at h; cases h
  · rfl
theorem fz_own {i : Nat} {xs : List D} (h : sl[i]? = some (.own xs)) (hs : sl.set i (.v (.list xs)) = sl') : frzS sl i = sl' := by
  unfold frzS; rw [h]; exact hs
theorem ki_nil : killS [] sl = sl := rfl
theorem ki_cons {i : Nat} {js : List Nat} (h : killS js sl = sl1) (hs : sl1.set i .un = sl') : killS (i :: js) sl = sl' := by
  rw [killS, h, hs]
/-- a for over what is no list of the frame's own -/
theorem q_for {t : TGt} {it : CE} {body : List CS} {is : List Nat} {o : Out} (h1 : lockOf it = some is) (h2 : ev it sl ss = some (ra, s1)) (h2' : itR ra = some ds) (h3 : (is.all fun i => !isOwn sl i && !isLock sl i) = true)
    (h4 : forD (fun d sl' ss' => (bindT t d sl').bind fun sl' => exs body sl' ss') ds sl s1 = some o) : ex (.forr t it body) sl ss = some o := by
  rw [x_for h1 (ti_of h2 h2') (fun i hi => by have := List.all_eq_true.mp h3 i hi; simpa using this)]
  exact h4
theorem f_run {np N : Nat} {body : List CS} {args : List AV} (h : args.length = np) (hs : args.map AV.sv ++ List.replicate (N - np) .un = sl) (hb : exs body sl ss = some (.rt r s1)) : runF np N body args ss = some (r, s1) := by
  rw [runF_eq h, hs, hb]; rfl
/-! a comprehension's turn -/
theorem lc_turnF {elt : CE} {tg : TGt} {cond : List CE} {js : List Nat} (hg : tg.slots = js) (hk : killS js sl = sl1) (hb : bindT tg d sl1 = some sl') (he : evs cond sl' ss = some (rs, s1)) (hc : condR rs = some false) : lcB elt tg cond sl d ss = some (none, s1) := by
  unfold lcB toC O.f; rw [hg, hk, hb]; simp only [Option.bind_some, he, hc, Option.map_some]; rfl
theorem lc_turnT {elt : CE} {tg : TGt} {cond : List CE} {js : List Nat} (hg : tg.slots = js) (hk : killS js sl = sl1) (hb : bindT tg d sl1 = some sl') (he : evs cond sl' ss = some (rs, s1)) (hc : condR rs = some true) (h : ev elt sl' s1 = some (r, s2)) (hx : esc r = some x) : lcB elt tg cond sl d ss = some (some x, s2) := by
  unfold lcB toC O.f; rw [hg, hk, hb]; simp only [Option.bind_some, he, hc, Option.map_some, te_of h hx]; rfl
end
/-! comparisons -/
section
variable {i j : Int} {a b : Str} {x y : D}
theorem c_ltT (h : i < j) : cmpD .lt (.int i) (.int j) = some true := by show some (decide _) = _; rw [decide_eq_true h]
theorem c_ltF (h : ¬ i < j) : cmpD .lt (.int i) (.int j) = some false := by show some (decide _) = _; rw [decide_eq_false h]
theorem c_lt : cmpD .lt (.int i) (.int j) = some (decide (i < j)) := rfl
theorem c_leT (h : i ≤ j) : cmpD .le (.int i) (.int j) = some true := by show some (decide _) = _; rw [decide_eq_true h]
theorem c_leF (h : ¬ i ≤ j) : cmpD .le (.int i) (.int j) = some false := by show some (decide _) = _; rw [decide_eq_false h]
theorem c_le : cmpD .le (.int i) (.int j) = some (decide (i ≤ j)) := rfl
theorem c_gtT (h : j < i) : cmpD .gt (.int i) (.int j) = some true := by show some (decide _) = _; rw [decide_eq_true h]
theorem c_gtF (h : ¬ j < i) : cmpD .gt (.int i) (.int j) = some false := by show some (decide _) = _; rw [decide_eq_false h]
theorem c_gt : cmpD .gt (.int i) (.int j) = some (decide (j < i)) := rfl
theorem c_geT (h : j ≤ i) : cmpD .ge (.int i) (.int j) = some true := by show some (decide _) = _; rw [decide_eq_true h]
theorem c_geF (h : ¬ j ≤ i) : cmpD .ge (.int i) (.int j) = some false := by show some (decide _) = _; rw [decide_eq_false h]
theorem c_ge : cmpD .ge (.int i) (.int j) = some (decide (j ≤ i)) := rfl
theorem c_eqT (h : i = j) : cmpD .eq (.int i) (.int j) = some true := by subst h; show some (i == i) = _; simp
theorem c_eqF (h : ¬ i = j) : cmpD .eq (.int i) (.int j) = some false := by show some (i == j) = _; simp [h]
theorem c_eq : cmpD .eq (.int i) (.int j) = some (decide (i = j)) := rfl
theorem c_neT (h : ¬ i = j) : cmpD .ne (.int i) (.int j) = some true := by show some (!(i == j)) = _; simp [h]
theorem c_neF (h : i = j) : cmpD .ne (.int i) (.int j) = some false := by subst h; show some (!(i == i)) = _; simp
theorem c_ne : cmpD .ne (.int i) (.int j) = some (!decide (i = j)) := rfl
theorem c_eqsT (h : a = b) : cmpD .eq (.str a) (.str b) = some true := by subst h; show some (a == a) = _; simp
theorem c_eqsF (h : ¬ a = b) : cmpD .eq (.str a) (.str b) = some false := by show some (a == b) = _; simp [h]
theorem c_nesT (h : ¬ a = b) : cmpD .ne (.str a) (.str b) = some true := by show some (!(a == b)) = _; simp [h]
theorem c_nesF (h : a = b) : cmpD .ne (.str a) (.str b) = some false := by subst h; show some (!(a == a)) = _; simp
theorem c_ni {k : Bool} (h : cmpD .isin x y = some k) : cmpD .notin x y = some (!k) := by show (inD x y).map _ = _; rw [show inD x y = some k from h]; rfl
theorem c_nq {k : Bool} (h : cmpD .eq x y = some k) : cmpD .ne x y = some (!k) := by show (eqD x y).map _ = _; rw [show eqD x y = some k from h]; rfl
theorem len_iLt {l : List Int} : biD .len [.tuple (iL l)] = some (.v (.int l.length)) := by show some (R.v (.int (iL l).length)) = _; rw [iL_len]
theorem len_iLl {l : List Int} : biD .len [.list (iL l)] = some (.v (.int l.length)) := by show some (R.v (.int (iL l).length)) = _; rw [iL_len]
theorem add_int : binD .add (.int i) (.int j) = some (.v (.int (i + j))) := rfl
theorem sub_int : binD .sub (.int i) (.int j) = some (.v (.int (i - j))) := rfl
theorem idx_0t {d : D} {ds : List D} : idxD (.tuple (d :: ds)) (.int 0) = some d := by
  unfold idxD; simp [ixN, L2.ixN]
theorem idx_0l {d : D} {ds : List D} : idxD (.list (d :: ds)) (.int 0) = some d := by
  unfold idxD; simp [ixN, L2.ixN]
theorem idx_1t {d e : D} {ds : List D} : idxD (.tuple (d :: e :: ds)) (.int 1) = some e := by
  unfold idxD; simp [ixN, L2.ixN]; rw [if_pos (by omega)]; rfl
theorem idx_1l {d e : D} {ds : List D} : idxD (.list (d :: e :: ds)) (.int 1) = some e := by
  unfold idxD; simp [ixN, L2.ixN]; rw [if_pos (by omega)]; rfl
end
section
variable {sl sl1 sl' : List SV} {ss s1 s2 : SS} {x y z d : D} {r : R} {j k : Bool} {rs : List R} {ds : List D} {es : List CE}
theorem bT {f : Bi} (h : biD f ds = some (.v (.bool true))) : biD f ds = some (bl true) := h
theorem bF {f : Bi} (h : biD f ds = some (.v (.bool false))) : biD f ds = some (bl false) := h
theorem cT {o : COp} (h : cmpD o x y = some true) : cmpD o x y = some true := h
theorem cF {o : COp} (h : cmpD o x y = some false) : cmpD o x y = some false := h
theorem c_isb {b c : Bool} : cmpD (.isb c) (.bool b) y = some (b == c) := rfl
theorem c_isn : cmpD .isn x y = some (isNone x) := rfl
theorem c_notn : cmpD .notn x y = some (!isNone x) := rfl
theorem l_rd (h : rd r = some x) : rd r = some x := h
theorem l_esc (h : esc r = some x) : esc r = some x := h
theorem l_asB (h : asB r = some j) : asB r = some j := h
theorem l_itR (h : itR r = some ds) : itR r = some ds := h
theorem l_toS {s : SV} (h : toS r = some s) : toS r = some s := h
theorem l_retR {r' : R} (h : retR r = some r') : retR r = some r' := h
theorem l_getR {i : Nat} (h : getR sl i = some r) : getR sl i = some r := h
theorem l_isOut (h : isOut r = true) : isOut r = true := h
theorem l_isNop {a : CE} (h : isNop a = false) : isNop a = false := h
theorem l_bo (h : (rs.any isBo && !r.lf) = false) : (rs.any isBo && !r.lf) = false := h
theorem bo_no (h : rs.any isBo = false) : (rs.any isBo && !r.lf) = false := by rw [h]; rfl
theorem bo_lf (h : r.lf = true) : (rs.any isBo && !r.lf) = false := by rw [h]; simp
theorem l_src {i : Nat} (h : isSrc sl i = true) : isSrc sl i = true := h
theorem l_lockOf {a : CE} {is : List Nat} (h : lockOf a = some is) : lockOf a = some is := h
theorem l_lk {is : List Nat} (h : (is.all fun i => !isOwn sl i && !isLock sl i) = true) : (is.all fun i => !isOwn sl i && !isLock sl i) = true := h
theorem l_ownL {i : Nat} {xs : List D} (h : ownL sl[i]? = some xs) : ownL sl[i]? = some xs := h
theorem l_isOwn {i : Nat} (h : isOwn sl i = false) : isOwn sl i = false := h
theorem l_at {i : Nat} {s : SV} (h : sl[i]? = some s) : sl[i]? = some s := h
theorem l_lt {α : Type} {l : List α} {i : Nat} (h : i < l.length) : i < l.length := h
theorem l_le {α : Type} {l : List α} {i : Nat} (h : l.length ≤ i) : l.length ≤ i := h
theorem l_lt' {α : Type} {l : List α} {i : Nat} (h : l.length < i) : l.length < i := h
theorem dr_nil : dispR [] = some [] := rfl
theorem dr_v (h : dispR rs = some ds) : dispR (.v d :: rs) = some (d :: ds) := by show (some d).bind _ = _; simp only [Option.bind_some, h, Option.map_some]
theorem dr_fr {xs : List D} (h : dispR rs = some ds) : dispR (.fr xs :: rs) = some (.list xs :: ds) := by show (some (PyData.list xs)).bind _ = _; simp only [Option.bind_some, h, Option.map_some]
theorem dr_bl (h : dispR rs = some ds) : dispR (bl j :: rs) = some (.bool j :: ds) := dr_v h
theorem dr_st {xs : List D} (h : dispR rs = some ds) : dispR (.st xs :: rs) = some (xs ++ ds) := by show (dispR rs).map _ = _; rw [h]; rfl
theorem rs_nil : rds [] = some [] := rfl
theorem rs_v (h : rds rs = some ds) : rds (.v d :: rs) = some (d :: ds) := by show (some d).bind _ = _; simp only [Option.bind_some, h, Option.map_some]
theorem rs_fr {xs : List D} (h : rds rs = some ds) : rds (.fr xs :: rs) = some (.list xs :: ds) := by show (some (PyData.list xs)).bind _ = _; simp only [Option.bind_some, h, Option.map_some]
theorem rs_bo {xs : List D} (h : rds rs = some ds) : rds (.bo xs :: rs) = some (.list xs :: ds) := by show (some (PyData.list xs)).bind _ = _; simp only [Option.bind_some, h, Option.map_some]
theorem rs_bl (h : rds rs = some ds) : rds (bl j :: rs) = some (.bool j :: ds) := rs_v h
theorem ta_nil : toAs [] = some [] := rfl
section
variable {as : List AV}
theorem ta_v (h : toAs rs = some as) : toAs (.v d :: rs) = some (.v d :: as) := by show (some (AV.v d)).bind _ = _; simp only [Option.bind_some, h, Option.map_some]
theorem ta_fr {xs : List D} (h : toAs rs = some as) : toAs (.fr xs :: rs) = some (.v (.list xs) :: as) := by show (some (AV.v (.list xs))).bind _ = _; simp only [Option.bind_some, h, Option.map_some]
theorem ta_bo {xs : List D} (h : toAs rs = some as) : toAs (.bo xs :: rs) = some (.v (.list xs) :: as) := by show (some (AV.v (.list xs))).bind _ = _; simp only [Option.bind_some, h, Option.map_some]
theorem ta_src (h : toAs rs = some as) : toAs (.src :: rs) = some (.src :: as) := by show (some AV.src).bind _ = _; simp only [Option.bind_some, h, Option.map_some]
theorem ta_bl (h : toAs rs = some as) : toAs (bl j :: rs) = some (.v (.bool j) :: as) := ta_v h
theorem fs_v {R : List SV} (h : as.map AV.sv ++ R = sl) : (AV.v d :: as).map AV.sv ++ R = .v d :: sl := by rw [← h]; rfl
theorem fs_s {R : List SV} (h : as.map AV.sv ++ R = sl) : (AV.src :: as).map AV.sv ++ R = .src :: sl := by rw [← h]; rfl
theorem fs_n {n : Nat} (h : List.replicate n SV.un = sl) : [].map AV.sv ++ List.replicate n SV.un = sl := h
theorem fr_0 : List.replicate 0 SV.un = [] := rfl
theorem fr_1 {n : Nat} (h : List.replicate n SV.un = sl) : List.replicate (n + 1) SV.un = .un :: sl := by rw [← h]; rfl
end
theorem ss_nil : toSs [] = some [] := rfl
theorem ss_cons {s : SV} {vs : List SV} (h : toS r = some s) (h' : toSs rs = some vs) : toSs (r :: rs) = some (s :: vs) := by
  show (toS r).bind _ = _; simp only [h, Option.bind_some, h', Option.map_some]
theorem cr_nil : condR [] = some true := rfl
theorem cr_cons (h : asB r = some j) : condR (r :: rs) = some j := h
theorem lr_v {i : Nat} {n : Int} {o : BOp} (h : sl[i]? = some (.v (.int n))) (ha : augI o (.int n) x = some z) (hs : sl.set i (.v z) = sl') : augD sl i o x = some sl' := by
  unfold augD; rw [h]; simp only [ha, Option.map_some, hs]
theorem ai_add {i j : Int} : augI .add (.int i) (.int j) = some (.int (i + j)) := rfl
theorem ai_sub {i j : Int} : augI .sub (.int i) (.int j) = some (.int (i - j)) := rfl
theorem slots1 {i : Nat} : (TGt.one i).slots = [i] := rfl
theorem slots2 {i j : Nat} : (TGt.tup [.one i, .one j]).slots = [i, j] := rfl
end
theorem l_cmpD {o : COp} {x y : D} {k : Bool} (h : cmpD o x y = some k) : cmpD o x y = some k := h
theorem asF {m : O R} {k : Bool} {ss : SS} (h : m = some (.v (.bool k), ss)) (e : k = false) : m = some (bl false, ss) := by rw [h, e]; rfl
theorem asT {m : O R} {k : Bool} {ss : SS} (h : m = some (.v (.bool k), ss)) (e : k = true) : m = some (bl true, ss) := by rw [h, e]; rfl
theorem cqF {o : COp} {x y : D} {k : Bool} (h : cmpD o x y = some k) (e : k = false) : cmpD o x y = some false := by rw [h, e]
theorem cqT {o : COp} {x y : D} {k : Bool} (h : cmpD o x y = some k) (e : k = true) : cmpD o x y = some true := by rw [h, e]
theorem l_eqR {r r' : R} (h : r = r') : r = r' := h
theorem l_not {j k : Bool} (h : (!j) = k) : (!j) = k := h
theorem l_biD {f : Bi} {ds : List D} {r : R} (h : biD f ds = some r) : biD f ds = some r := h
theorem l_qnil {sl : List SV} {ss : SS} {o : Out} (h : Out.nx sl ss = o) : exs [] sl ss = some o := by rw [← h]; rfl
theorem exs_app {b : List CS} {sl1 : List SV} {s1 : SS} : ∀ {a : List CS} {sl : List SV} {ss : SS}, exs a sl ss = some (.nx sl1 s1) → exs (a ++ b) sl ss = exs b sl1 s1
  | [], sl, ss, h => by
    have h : some (Out.nx sl ss) = some (.nx sl1 s1) := h
    cases h; rfl
  | c :: a, sl, ss, h => by
    rw [exs_cons] at h
    rw [List.cons_append, exs_cons]
    cases e : ex c sl ss with
    | none => rw [e] at h; cases h
    | some o =>
      rw [e] at h
      cases o with
      | nx sl2 s2 => exact exs_app (a := a) h
      | rt r s2 => cases h
theorem l_negD {x : D} {r : R} (h : negD x = some r) : negD x = some r := h
theorem l_revD {x : D} {r : R} (h : revD x = some r) : revD x = some r := h
theorem l_enD {x : D} {r : R} (h : enD x = some r) : enD x = some r := h
theorem add_tup {a b : List D} (h : a.length + b.length ≤ SL) : binD .add (.tuple a) (.tuple b) = some (.v (.tuple (a ++ b))) := if_pos h
theorem add_list {a b : List D} (h : a.length + b.length ≤ SL) : binD .add (.list a) (.list b) = some (.fr (a ++ b)) := if_pos h
theorem l_idxD {x y d : D} (h : idxD x y = some d) : idxD x y = some d := h
theorem l_binD {o : BOp} {x y : D} {r : R} (h : binD o x y = some r) : binD o x y = some r := h
end Pm
local macro_rules | `(tactic| bv_omega) => `(tactic| first | omega | (simp only [List.length_cons, List.length_nil, List.length_append, List.length_take, List.length_drop, List.length_reverse, Pm.iL_len, Pm.SL]; omega))
local macro_rules | `(tactic| sizeOf_list_dec) => `(tactic| first
  | with_reducible assumption
  | ((with_reducible apply Pm.c_ltT); omega) | ((with_reducible apply Pm.c_ltF); omega) | with_reducible exact Pm.c_lt
  | ((with_reducible apply Pm.c_leT); omega) | ((with_reducible apply Pm.c_leF); omega) | with_reducible exact Pm.c_le
  | ((with_reducible apply Pm.c_gtT); omega) | ((with_reducible apply Pm.c_gtF); omega) | with_reducible exact Pm.c_gt
  | ((with_reducible apply Pm.c_geT); omega) | ((with_reducible apply Pm.c_geF); omega) | with_reducible exact Pm.c_ge
  | ((with_reducible apply Pm.c_eqT); omega) | ((with_reducible apply Pm.c_eqF); omega) | with_reducible exact Pm.c_eq
  | ((with_reducible apply Pm.c_neT); omega) | ((with_reducible apply Pm.c_neF); omega) | with_reducible exact Pm.c_ne
  | with_reducible exact Pm.c_eqsT rfl | with_reducible exact Pm.c_nesF rfl
  | ((with_reducible apply Pm.c_eqsT); assumption) | ((with_reducible apply Pm.c_nesF); assumption)
  | ((with_reducible apply Pm.c_eqsF); first | assumption | decide)
  | ((with_reducible apply Pm.c_nesT); first | assumption | decide)
  | exact Pm.cT rfl | exact Pm.cF rfl | with_reducible exact Pm.c_isn | with_reducible exact Pm.c_notn | with_reducible exact Pm.c_isb)
local macro_rules | `(tactic| array_mem_dec) => `(tactic| first
  | ((with_reducible apply Pm.l_rd); rfl) | ((with_reducible apply Pm.l_getR); rfl) | ((with_reducible apply Pm.l_asB); rfl)
  | (with_reducible ((repeat apply Pm.set_1); exact Pm.set_0))
  | (with_reducible first
     | assumption
     | exact Pm.p_lit | apply Pm.p_loc | apply Pm.p_cmp | apply Pm.p_idx | apply Pm.p_bin
     | apply Pm.p_and | apply Pm.p_or | apply Pm.p_not
     | exact Pm.p_nil | apply Pm.p_cons
     | exact Pm.k_andF | apply Pm.k_andT | apply Pm.k_and
     | exact Pm.k_orT | apply Pm.k_orF | apply Pm.k_or
     | exact Pm.k_cmpF | apply Pm.k_cmpT | apply Pm.k_cmp
     | apply Pm.k_ifT | apply Pm.k_ifF | apply Pm.k_iteT | apply Pm.k_iteF
     | apply Pm.k_nx | exact Pm.k_rt
     | exact Pm.q_nil | apply Pm.q_cons
     | apply Pm.q_set | apply Pm.q_ite | apply Pm.q_ret | apply Pm.q_par | apply Pm.q_unp
     | apply Pm.q_app | apply Pm.q_aug | apply Pm.q_frz | apply Pm.q_kill | apply Pm.q_sto | apply Pm.q_augs
     | apply Pm.q_exp | exact Pm.q_retn
     | exact Pm.sa_nil | apply Pm.sa_cons
     | apply Pm.b_one | apply Pm.b_tup | exact Pm.b_nil | apply Pm.b_cons
     | exact Pm.dr_nil | apply Pm.dr_v | apply Pm.dr_fr | apply Pm.dr_bl | apply Pm.dr_st
     | exact Pm.rs_nil | apply Pm.rs_v | apply Pm.rs_fr | apply Pm.rs_bo | apply Pm.rs_bl
     | exact Pm.ta_nil | apply Pm.ta_v | apply Pm.ta_fr | apply Pm.ta_bo | apply Pm.ta_src | apply Pm.ta_bl
     | apply Pm.fs_v | apply Pm.fs_s | apply Pm.fs_n | exact Pm.fr_0 | apply Pm.fr_1
     | exact Pm.ss_nil | apply Pm.ss_cons | exact Pm.cr_nil | apply Pm.cr_cons
     | exact Bool.not_true | exact Bool.not_false
     | exact Pm.add_int | exact Pm.sub_int | exact Pm.len_iLt | exact Pm.len_iLl
     | exact Pm.idx_0t | exact Pm.idx_0l | exact Pm.idx_1t | exact Pm.idx_1l
     | exact Pm.ki_nil | apply Pm.ki_cons | exact Pm.slots1 | exact Pm.slots2
     | apply Pm.p_bi | apply Pm.p_call | apply Pm.p_cmp2 | apply Pm.p_ife
     | apply Pm.p_tup | apply Pm.p_lst
     | apply Pm.p_sliB | apply Pm.p_sliA | apply Pm.p_sli
     | apply Pm.p_neg | apply Pm.p_enm | apply Pm.p_zip | apply Pm.p_rev | apply Pm.p_star
     | apply Pm.p_met | apply Pm.p_dhas | apply Pm.p_dget | apply Pm.p_dget2
     | exact Pm.p_glo | exact Pm.p_nop | exact Pm.p_newk | apply Pm.p_sget | apply Pm.p_slen
     | apply Pm.p_rg1 | apply Pm.p_rg2)
  | ((with_reducible apply Pm.l_cmpD); sizeOf_list_dec)
  | ((with_reducible apply Pm.l_esc); rfl) | ((with_reducible apply Pm.l_itR); rfl) | ((with_reducible apply Pm.l_toS); rfl)
  | ((with_reducible apply Pm.l_retR); rfl) | ((with_reducible apply Pm.l_isOut); rfl) | ((with_reducible apply Pm.l_isNop); rfl)
  | ((with_reducible apply Pm.bo_no); rfl) | ((with_reducible apply Pm.bo_lf); first | rfl | assumption)
  | ((with_reducible apply Pm.l_src); rfl) | ((with_reducible apply Pm.l_lockOf); rfl) | ((with_reducible apply Pm.l_lk); rfl)
  | ((with_reducible apply Pm.l_ownL); rfl) | ((with_reducible apply Pm.l_isOwn); rfl) | ((with_reducible apply Pm.l_at); rfl)
  | ((with_reducible apply Pm.l_lt); bv_omega) | ((with_reducible apply Pm.l_le); bv_omega) | ((with_reducible apply Pm.l_lt'); bv_omega)
  | ((with_reducible apply Pm.l_biD); first | exact Pm.bT rfl | exact Pm.bF rfl | rfl)
  | ((with_reducible apply Pm.l_idxD); rfl) | ((with_reducible apply Pm.l_qnil); rfl) | ((with_reducible apply Pm.l_negD); rfl) | ((with_reducible apply Pm.l_revD); rfl) | ((with_reducible apply Pm.l_enD); rfl)
  | ((with_reducible apply Pm.add_tup); bv_omega) | ((with_reducible apply Pm.add_list); bv_omega) | ((with_reducible apply Pm.l_not); rfl)
  | with_reducible apply Pm.k_rt' | ((with_reducible apply Pm.l_eqR); rfl)
  | ((with_reducible apply Pm.fz_own); rfl) | exact Pm.fz_id rfl
  | ((with_reducible apply Pm.lr_v); rfl) | with_reducible exact Pm.ai_add | with_reducible exact Pm.ai_sub)
local macro_rules | `(tactic| array_get_dec) => `(tactic| repeat array_mem_dec)
namespace Pm
open PySem
/-! ### reprs of small values; draws -/
theorem showable_all {ds : List D} (h : ∀ d ∈ ds, d.showable = true) : PyData.showableAll ds = true := by
  induction ds with
  | nil => simp [PyData.showableAll]
  | cons d ds ih => simp [PyData.showableAll, h d List.mem_cons_self, ih fun x hx => h x (List.mem_cons_of_mem _ hx)]
theorem short_all {ds : List D} (h : ∀ d ∈ ds, d.leavesShort 13 = true) : PyData.leavesShortAll 13 ds = true := by
  induction ds with
  | nil => simp [PyData.leavesShortAll]
  | cons d ds ih => simp [PyData.leavesShortAll, h d List.mem_cons_self, ih fun x hx => h x (List.mem_cons_of_mem _ hx)]
theorem depth_all {ds : List D} {k : Nat} (h : ∀ d ∈ ds, d.depth ≤ k) : PyData.depthAll ds ≤ k := by
  induction ds with
  | nil => simp [PyData.depthAll]
  | cons d ds ih =>
    have h1 := h d List.mem_cons_self
    have h2 := ih fun x hx => h x (List.mem_cons_of_mem _ hx)
    simp only [PyData.depthAll]; omega
theorem weight_all {ds : List D} {k : Nat} (h : ∀ d ∈ ds, d.weight ≤ k) : PyData.weightAll ds ≤ (k + 1) * ds.length := by
  induction ds with
  | nil => simp [PyData.weightAll]
  | cons d ds ih =>
    have h1 := h d List.mem_cons_self
    have h2 := ih fun x hx => h x (List.mem_cons_of_mem _ hx)
    simp only [PyData.weightAll, List.length_cons, Nat.mul_add, Nat.mul_one]; omega
/-- small: no deeper than k, no heavier than w -/
def RB (k w : Nat) (d : D) : Prop := d.showable = true ∧ d.leavesShort 13 = true ∧ d.depth ≤ k ∧ d.weight ≤ w
theorem RB.mono {k w k' w' : Nat} {d : D} (h : RB k w d) (hk : k ≤ k') (hw : w ≤ w') : RB k' w' d := ⟨h.1, h.2.1, Nat.le_trans h.2.2.1 hk, Nat.le_trans h.2.2.2 hw⟩
theorem RB.ok {k w : Nat} {d : D} (h : RB k w d) (hk : k ≤ 64) (hw : w ≤ 1048576) : reprOk d = true := by
  obtain ⟨h1, h2, h3, h4⟩ := h
  unfold reprOk
  simp only [Bool.and_eq_true, decide_eq_true_eq]
  exact ⟨⟨⟨h1, by omega⟩, h2⟩, by omega⟩
theorem RB_of {k w : Nat} {d : D} (h : (d.showable && d.leavesShort 13 && decide (d.depth ≤ k) && decide (d.weight ≤ w)) = true) : RB k w d := by
  simp only [Bool.and_eq_true, decide_eq_true_eq] at h
  exact ⟨h.1.1.1, h.1.1.2, h.1.2, h.2⟩
theorem RB_tup {k w : Nat} {ds : List D} (h : ∀ d ∈ ds, RB k w d) : RB (k + 1) (2 + (w + 1) * ds.length) (.tuple ds) := by
  have hd := depth_all (ds := ds) (k := k) fun d hd => (h d hd).2.2.1
  have hw := weight_all (ds := ds) (k := w) fun d hd => (h d hd).2.2.2
  refine ⟨?_, ?_, by rw [PyData.depth]; omega, by rw [PyData.weight]; omega⟩
  · rw [PyData.showable]; exact showable_all fun d hd => (h d hd).1
  · rw [PyData.leavesShort]; exact short_all fun d hd => (h d hd).2.1
theorem RB_list {k w : Nat} {ds : List D} (h : ∀ d ∈ ds, RB k w d) : RB (k + 1) (2 + (w + 1) * ds.length) (.list ds) := by
  have hd := depth_all (ds := ds) (k := k) fun d hd => (h d hd).2.2.1
  have hw := weight_all (ds := ds) (k := w) fun d hd => (h d hd).2.2.2
  refine ⟨?_, ?_, by rw [PyData.depth]; omega, by rw [PyData.weight]; omega⟩
  · rw [PyData.showable]; exact showable_all fun d hd => (h d hd).1
  · rw [PyData.leavesShort]; exact short_all fun d hd => (h d hd).2.1
theorem RB_int {i : Int} (h : i.natAbs < 1073741824) : RB 0 31 (.int i) := by
  have h1 := reprOk_int h
  unfold reprOk at h1
  simp only [Bool.and_eq_true, decide_eq_true_eq] at h1
  have := weight_int h
  exact ⟨h1.1.1.1, h1.1.2, by simp [PyData.depth], by omega⟩
theorem RB.repr {k w : Nat} {d : D} (h : RB k w d) (hk : k ≤ 64) (hw : w ≤ 1048576) : biD .repr [d] = some (.v (.str d.shown)) := reprD_of (h.ok hk hw)
def unI : D → Int
  | .int i => i
  | _ => 0
theorem perm_iL {ys : List D} {row : List Int} (h : ys.Perm (iL row)) : ∃ late, ys = iL late ∧ late.Perm row := by
  refine ⟨ys.map unI, ?_, ?_⟩
  · unfold iL
    rw [List.map_map]
    have : ∀ y ∈ ys, (PyData.int ∘ unI) y = y := fun y hy => by
      obtain ⟨i, _, rfl⟩ := List.mem_map.mp (h.mem_iff.mp hy)
      rfl
    rw [List.map_congr_left this]
    simp
  · have := h.map unI
    unfold iL at this
    rw [List.map_map] at this
    have e : (unI ∘ PyData.int) = id := by funext i; rfl
    rw [e, List.map_id] at this
    exact this
/-- a comprehension of draws -/
theorem ev_lc_draw {elt : CE} {tg : TGt} {it : CE} {cond : List CE} {sl : List SV} {ss s1 : SS} {ds : List D} {P : Int → Prop} (hit : toI (ev it sl ss) = some (ds, s1)) (ok : SSok s1) (hl : ds.length ≤ SL)
    (hf : ∀ d ∈ ds, ∀ ss, SSok ss → ∃ r ss', lcB elt tg cond sl d ss = some (some (.int r), ss') ∧ SSok ss' ∧ P r) : ∃ rs s2, ev (.lc elt tg it cond) sl ss = some (.fr (iL rs), s2) ∧ SSok s2 ∧ rs.length = ds.length ∧ ∀ r ∈ rs, P r := by
  obtain ⟨rs, s2, e, ok2, h1, h2⟩ := lcD_draw hf s1 ok
  refine ⟨rs, s2, ?_, ok2, h1, h2⟩
  rw [ev_lc, hit]
  simp only [Option.bind_some, e]
  rw [if_pos hl]
/-- a for of pure turns -/
theorem forD_all {f : D → List SV → SS → Option Out} {I : List SV → Prop} {ss : SS} : ∀ {ds : List D} {sl : List SV}, I sl → (∀ d ∈ ds, ∀ sl, I sl → ∃ sl', f d sl ss = some (.nx sl' ss) ∧ I sl') → ∃ sl', forD f ds sl ss = some (.nx sl' ss) ∧ I sl'
  | [], sl, h, _ => ⟨sl, rfl, h⟩
  | d :: ds, sl, h, st => by
    obtain ⟨sl1, e1, h1⟩ := st d List.mem_cons_self sl h
    obtain ⟨sl2, e2, h2⟩ := forD_all h1 fun x hx => st x (List.mem_cons_of_mem _ hx)
    refine ⟨sl2, ?_, h2⟩
    unfold forD
    rw [e1]
    exact e2
/-- a member of a list, drawn -/
theorem ix_at {n : Nat} {r : Int} (h : 0 ≤ r ∧ r < (n : Int)) : L2.ixN n r = some r.toNat := by
  unfold L2.ixN
  first
    | (simp; omega)
    | (rw [if_neg (by omega)]; simp; omega)
    | (split <;> simp_all <;> omega)
theorem idx_at {ds : List D} {r : Int} (h : 0 ≤ r ∧ r < (ds.length : Int)) : ∃ d ∈ ds, idxD (.list ds) (.int r) = some d ∧ idxD (.tuple ds) (.int r) = some d := by
  have e : ixN ds.length r = some r.toNat := ix_at h
  have hr : r.toNat < ds.length := by omega
  refine ⟨ds[r.toNat], List.getElem_mem hr, ?_, ?_⟩ <;> (unfold idxD; simp only [e, Option.bind_some]; exact List.getElem?_eq_getElem hr)
theorem q_forO {t : TGt} {i : Nat} {body : List CS} {sl sl1 sl2 sl' : List SV} {ss s1 : SS} {xs : List D} (h : sl[i]? = some (.own xs)) (hs : sl.set i (.lock xs) = sl1) (hf : forD (fun d sl' ss' => (bindT t d sl').bind fun sl' => keptLocks [i] (exs body sl' ss')) xs sl1 ss = some (.nx sl2 s1)) (hu : sl2[i]? = some (.lock xs)) (hr : sl2.set i (.own xs) = sl') :
    ex (.forr t (.loc i) body) sl ss = some (.nx sl' s1) := by
  rw [x_forO h, hs, hf]
  simp only
  unfold unlockS
  rw [hu]
  simp only [hr]
theorem kept_nx {i : Nat} {sl : List SV} {ss : SS} (h : isLock sl i = true) : keptLocks [i] (some (.nx sl ss)) = some (.nx sl ss) := by
  unfold keptLocks
  simp [h]
theorem eq_bool (a b : Bool) : cmpD .eq (.bool a) (.bool b) = some (a == b) := by cases a <;> cases b <;> decide +kernel
theorem ne_bool (a b : Bool) : cmpD .ne (.bool a) (.bool b) = some (!(a == b)) := c_nq (eq_bool a b)
end Pm
namespace K_roundswaps_k15_parkings_judged
open PySem PySem.Spec PyProof.Rows L2 Pm
def N__law_pick : List Str := ["source", "many", "left", "mixed"]
def B__law_pick : List CS := [.whl (.and (.cmp .gt (.loc 1) (.lit (.int 1))) (.and (.cmp .lt (.sget .left 0) (.lit (.int 2))) (.cmp .gt (.slen 0) (.lit (.int 0))))) [.spop 0], .set 2 (.sget .left 0), .ite (.or (.cmp .lt (.loc 1) (.lit (.int 2))) (.cmp .gt (.loc 2) (.lit (.int 1)))) [.sput .left 0 (.bin .fdiv (.loc 2) (.bi .max2 [(.lit (.int 1)), (.loc 1)])), .ret (.bin .mod (.bi .int [(.loc 2)]) (.bi .max2 [(.lit (.int 1)), (.loc 1)]))] [], .sput .turn 0 (.bin .add (.sget .turn 0) (.lit (.int 1))), .set 3 (.bin .mod (.bi .int [(.bin .add (.sget .mixed 0) (.bin .mul (.sget .turn 0) (.lit (.int 104729))))]) (.lit (.int 998244353))), .set 3 (.bin .mod (.bi .int [(.bin .add (.bin .mul (.loc 3) (.loc 3)) (.bin .mul (.sget .turn 0) (.lit (.int 17))))]) (.lit (.int 2147483647))), .sput .mixed 0 (.loc 3), .ret (.bin .mod (.bi .int [(.bin .fdiv (.loc 3) (.lit (.int 16)))]) (.loc 1))]
def F__law_pick : Fn := runF 2 4 B__law_pick
def N__law_mixed : List Str := ["source", "things", "rest", "lap"]
def B__law_mixed : List CS := [.set 2 (.bi .list [(.loc 1)]), .rmix 2 0 3 "_law_pick" F__law_pick]
def F__law_mixed : Fn := runF 2 4 B__law_mixed
def N__law_row : List Str := ["source", "m", "k"]
def B__law_row : List CS := [.ite (.cmp .eq (.call "_law_pick" F__law_pick [(.loc 0), (.lit (.int 3))]) (.lit (.int 0))) [.ret (.bi .tuple [(.lc (.call "_law_pick" F__law_pick [(.loc 0), (.bin .add (.loc 1) (.lit (.int 2)))]) (.one 2) (.rg1 (.loc 1)) [])])] [], .ret (.bi .tuple [(.call "_law_mixed" F__law_mixed [(.loc 0), (.lc (.call "_law_pick" F__law_pick [(.loc 0), (.bin .add (.loc 2) (.lit (.int 1)))]) (.one 2) (.rg1 (.loc 1)) [])])])]
def F__law_row : Fn := runF 2 3 B__law_row
def N_few_place : List Str := ["row", "some", "x", "one"]
def B_few_place : List CS := [.set 1 (.lc (.loc 2) (.one 2) (.rg1 (.bi .len [(.loc 0)])) [(.cmp .le (.bi .len [(.lc (.loc 3) (.one 3) (.loc 0) [(.cmp .le (.loc 3) (.loc 2))])]) (.loc 2))]), .ret (.ife (.cmp .ne (.loc 1) (.lst [])) (.idx (.loc 1) (.lit (.int 0))) (.lit .none))]
def F_few_place : Fn := runF 1 4 B_few_place
def N_parking_places : List Str := ["row", "found", "number", "place"]
def B_parking_places : List CS := [.set 1 (.lst []), .forr (.one 2) (.loc 0) [.app 1 (.idx (.lc (.loc 3) (.one 3) (.rg2 (.loc 2) (.bi .len [(.loc 0)])) [(.cmp .notin (.loc 3) (.loc 1))]) (.lit (.int 0)))], .ret (.bi .tuple [(.loc 1)])]
def F_parking_places : Fn := runF 1 4 B_parking_places
def N_parking_paper : List Str := ["row", "x"]
def B_parking_paper : List CS := [.set 1 (.call "few_place" F_few_place [(.loc 0)]), .frz 1, .ret (.ife (.cmp .notn (.loc 1) (.lit .none)) (.tup [(.lit (.str "few")), (.loc 1)]) (.tup [(.lit (.str "parking")), (.call "parking_places" F_parking_places [(.loc 0)])]))]
def F_parking_paper : Fn := runF 1 2 B_parking_paper
def N__law_of : List Str := ["source", "some"]
def B__law_of : List CS := [.ret (.idx (.loc 1) (.call "_law_pick" F__law_pick [(.loc 0), (.bi .len [(.loc 1)])]))]
def F__law_of : Fn := runF 2 2 B__law_of
def N__law_places : List Str := ["row", "found", "number", "place"]
def B__law_places : List CS := [.set 1 (.lst []), .forr (.one 2) (.loc 0) [.set 3 (.loc 2), .whl (.cmp .isin (.loc 3) (.loc 1)) [.set 3 (.bin .add (.loc 3) (.lit (.int 1)))], .frz 3, .app 1 (.loc 3)], .ret (.bi .tuple [(.loc 1)])]
def F__law_places : Fn := runF 1 4 B__law_places
def N__law_few : List Str := ["row", "some", "x", "one"]
def B__law_few : List CS := [.set 1 (.lc (.loc 2) (.one 2) (.rg1 (.bi .len [(.loc 0)])) [(.cmp .le (.bi .len [(.lc (.lit (.int 1)) (.one 3) (.loc 0) [(.cmp .le (.loc 3) (.loc 2))])]) (.loc 2))]), .ret (.ife (.cmp .ne (.loc 1) (.lst [])) (.idx (.loc 1) (.lit (.int 0))) (.lit .none))]
def F__law_few : Fn := runF 1 4 B__law_few
def N_is_whole : List Str := ["value"]
def B_is_whole : List CS := [.ret (.and (.bi .isint [(.loc 0)]) (.not (.bi .isbool [(.loc 0)])))]
def F_is_whole : Fn := runF 1 1 B_is_whole
def N_are_numbers : List Str := ["value", "one"]
def B_are_numbers : List CS := [.ret (.and (.bi .istuple [(.loc 0)]) (.bi .all [(.lc (.and (.call "is_whole" F_is_whole [(.loc 1)]) (.cmp .ge (.loc 1) (.lit (.int 0)))) (.one 1) (.loc 0) [])]))]
def F_are_numbers : Fn := runF 1 2 B_are_numbers
def N_is_parking : List Str := ["value"]
def B_is_parking : List CS := [.ret (.and (.call "are_numbers" F_are_numbers [(.loc 0)]) (.cmp .isn (.call "few_place" F_few_place [(.loc 0)]) (.lit .none)))]
def F_is_parking : Fn := runF 1 1 B_is_parking
def N__law_is_park : List Str := ["row", "k", "one"]
def B__law_is_park : List CS := [.ret (.cmp .eq (.lc (.loc 1) (.tup [(.one 1), (.one 2)]) (.enm (.bi .sorted [(.loc 0)])) [(.cmp .gt (.loc 2) (.loc 1))]) (.lst []))]
def F__law_is_park : Fn := runF 1 3 B__law_is_park
def N__law_is_int : List Str := ["value"]
def B__law_is_int : List CS := [.ret (.and (.bi .isint [(.loc 0)]) (.not (.bi .isbool [(.loc 0)])))]
def F__law_is_int : Fn := runF 1 1 B__law_is_int
def N__law_fault : List Str := ["row", "value", "m", "k", "many", "taken", "place", "one"]
def B__law_fault : List CS := [.set 2 (.bi .len [(.loc 0)]), .ite (.or (.not (.bi .istuple [(.loc 1)])) (.or (.cmp .ne (.bi .len [(.loc 1)]) (.lit (.int 2))) (.cmp .notin (.bi .repr [(.idx (.loc 1) (.lit (.int 0)))]) (.tup [(.lit (.str "'few'")), (.lit (.str "'parking'"))])))) [.ret (.tup [(.lit (.str "form"))])] [], .ite (.cmp .eq (.idx (.loc 1) (.lit (.int 0))) (.lit (.str "few"))) [.ite (.or (.not (.call "_law_is_int" F__law_is_int [(.idx (.loc 1) (.lit (.int 1)))])) (.not (.cmp2 .le .lt (.lit (.int 0)) (.idx (.loc 1) (.lit (.int 1))) (.loc 2)))) [.ret (.tup [(.lit (.str "form"))])] [], .set 4 (.bi .len [(.lc (.lit (.int 1)) (.one 7) (.loc 0) [(.cmp .le (.loc 7) (.idx (.loc 1) (.lit (.int 1))))])]), .ret (.ife (.cmp .gt (.loc 4) (.idx (.loc 1) (.lit (.int 1)))) (.tup [(.lit (.str "many")), (.loc 4)]) (.lit .none))] [], .ite (.or (.not (.bi .istuple [(.idx (.loc 1) (.lit (.int 1)))])) (.cmp .ne (.bi .len [(.idx (.loc 1) (.lit (.int 1)))]) (.loc 2))) [.ret (.tup [(.lit (.str "form"))])] [], .ite (.cmp .ne (.lc (.loc 7) (.one 7) (.idx (.loc 1) (.lit (.int 1))) [(.or (.not (.call "_law_is_int" F__law_is_int [(.loc 7)])) (.not (.cmp2 .le .lt (.lit (.int 0)) (.loc 7) (.loc 2))))]) (.lst [])) [.ret (.tup [(.lit (.str "form"))])] [], .forr (.one 3) (.rg1 (.loc 2)) [.set 5 (.sli (.idx (.loc 1) (.lit (.int 1))) .nop (.loc 3)), .set 6 (.idx (.loc 0) (.loc 3)), .whl (.cmp .isin (.loc 6) (.loc 5)) [.set 6 (.bin .add (.loc 6) (.lit (.int 1)))], .ite (.cmp .ne (.idx (.idx (.loc 1) (.lit (.int 1))) (.loc 3)) (.loc 6)) [.ret (.tup [(.lit (.str "place")), (.loc 3)])] []], .ret (.lit .none)]
def F__law_fault : Fn := runF 2 8 B__law_fault
def N__law_is_any : List Str := ["value", "one"]
def B__law_is_any : List CS := [.ite (.or (.not (.bi .istuple [(.loc 0)])) (.cmp .ne (.lc (.loc 1) (.one 1) (.loc 0) [(.or (.not (.call "_law_is_int" F__law_is_int [(.loc 1)])) (.cmp .lt (.loc 1) (.lit (.int 0))))]) (.lst []))) [.ret (.lit (.bool false))] [], .ret (.call "_law_is_park" F__law_is_park [(.loc 0)])]
def F__law_is_any : Fn := runF 1 2 B__law_is_any
def N_judge_few : List Str := ["row", "x", "many", "one"]
def B_judge_few : List CS := [.set 2 (.bi .len [(.lc (.loc 3) (.one 3) (.loc 0) [(.cmp .le (.loc 3) (.loc 1))])]), .ret (.ife (.cmp .gt (.loc 2) (.loc 1)) (.tup [(.lit (.str "many")), (.loc 2)]) (.lit .none))]
def F_judge_few : Fn := runF 2 4 B_judge_few
def N_are_places : List Str := ["row", "places", "k", "place", "late"]
def B_are_places : List CS := [.forr (.tup [(.one 2), (.one 3)]) (.enm (.loc 1)) [.ite (.or (.cmp .lt (.loc 3) (.idx (.loc 0) (.loc 2))) (.cmp .isin (.loc 3) (.sli (.loc 1) .nop (.loc 2)))) [.ret (.lit (.bool false))] [], .ite (.cmp .ne (.lc (.loc 4) (.one 4) (.rg2 (.idx (.loc 0) (.loc 2)) (.loc 3)) [(.cmp .notin (.loc 4) (.sli (.loc 1) .nop (.loc 2)))]) (.lst [])) [.ret (.lit (.bool false))] []], .ret (.lit (.bool true))]
def F_are_places : Fn := runF 2 5 B_are_places
def N_judge_parking : List Str := ["row", "value", "wrong", "k", "place"]
def B_judge_parking : List CS := [.ite (.or (.not (.bi .istuple [(.loc 1)])) (.or (.cmp .ne (.bi .len [(.loc 1)]) (.lit (.int 2))) (.not (.bi .isstr [(.idx (.loc 1) (.lit (.int 0)))])))) [.ret (.tup [(.lit (.str "form"))])] [], .ite (.and (.cmp .eq (.idx (.loc 1) (.lit (.int 0))) (.lit (.str "few"))) (.and (.call "is_whole" F_is_whole [(.idx (.loc 1) (.lit (.int 1)))]) (.cmp2 .le .lt (.lit (.int 0)) (.idx (.loc 1) (.lit (.int 1))) (.bi .len [(.loc 0)])))) [.ret (.call "judge_few" F_judge_few [(.loc 0), (.idx (.loc 1) (.lit (.int 1)))])] [], .ite (.or (.cmp .ne (.idx (.loc 1) (.lit (.int 0))) (.lit (.str "parking"))) (.or (.not (.call "are_numbers" F_are_numbers [(.idx (.loc 1) (.lit (.int 1)))])) (.cmp .ne (.bi .len [(.idx (.loc 1) (.lit (.int 1)))]) (.bi .len [(.loc 0)])))) [.ret (.tup [(.lit (.str "form"))])] [], .ite (.cmp .ne (.lc (.loc 4) (.one 4) (.idx (.loc 1) (.lit (.int 1))) [(.cmp .ge (.loc 4) (.bi .len [(.loc 0)]))]) (.lst [])) [.ret (.tup [(.lit (.str "form"))])] [], .set 2 (.lc (.loc 3) (.one 3) (.rg1 (.bi .len [(.loc 0)])) [(.not (.call "are_places" F_are_places [(.sli (.loc 0) .nop (.bin .add (.loc 3) (.lit (.int 1)))), (.sli (.idx (.loc 1) (.lit (.int 1))) .nop (.bin .add (.loc 3) (.lit (.int 1))))]))]), .ret (.ife (.cmp .ne (.loc 2) (.lst [])) (.tup [(.lit (.str "place")), (.idx (.loc 2) (.lit (.int 0)))]) (.lit .none))]
def F_judge_parking : Fn := runF 2 5 B_judge_parking
def N_law : List Str := ["script", "source", "lap", "m", "row", "told", "odd", "late", "values", "value", "some", "kept", "few", "k", "x", "shown", "fault"]
def B_law : List CS := [.forr (.one 2) (.rg1 (.lit (.int 4))) [.set 3 (.call "_law_pick" F__law_pick [(.loc 1), (.idx (.lst [(.lit (.int 3)), (.lit (.int 5)), (.lit (.int 8)), (.lit (.int 12))]) (.loc 2))]), .set 4 (.call "_law_row" F__law_row [(.loc 1), (.loc 3)]), .par [11, 12] [(.bi .repr [(.loc 4)]), (.call "_law_few" F__law_few [(.loc 4)])], .set 5 (.call "parking_paper" F_parking_paper [(.loc 4)]), .ite (.or (.cmp .ne (.cmp .isn (.loc 12) (.lit .none)) (.call "_law_is_park" F__law_is_park [(.loc 4)])) (.cmp .ne (.cmp .eq (.idx (.loc 5) (.lit (.int 0))) (.lit (.str "parking"))) (.cmp .isn (.loc 12) (.lit .none)))) [.ret (.lit (.bool false))] [], .ite (.or (.cmp .notn (.call "_law_fault" F__law_fault [(.loc 4), (.loc 5)]) (.lit .none)) (.cmp .ne (.bi .repr [(.call "is_parking" F_is_parking [(.loc 4)])]) (.bi .repr [(.cmp .isn (.loc 12) (.lit .none))]))) [.ret (.lit (.bool false))] [], .frz 5, .ite (.and (.cmp .isn (.loc 12) (.lit .none)) (.cmp .ne (.bi .repr [(.lst [(.call "parking_places" F_parking_places [(.loc 4)]), (.loc 5)])]) (.bi .repr [(.lst [(.call "_law_places" F__law_places [(.loc 4)]), (.tup [(.lit (.str "parking")), (.call "_law_places" F__law_places [(.loc 4)])])])]))) [.ret (.lit (.bool false))] [], .par [13, 14] [(.call "_law_pick" F__law_pick [(.loc 1), (.bin .add (.loc 3) (.lit (.int 1)))]), (.call "_law_pick" F__law_pick [(.loc 1), (.bin .add (.loc 3) (.lit (.int 2)))])], .frz 3, .set 6 (.call "_law_of" F__law_of [(.loc 1), (.lst [(.lit .none), (.lit (.bool true)), (.neg (.lit (.int 1))), (.loc 3), (.lit (.str "0")), (.tup [(.lit (.int 0))]), (.lst [(.lit (.int 0))]), (.lit (.int 0)), (.lit (.int 1)), (.bin .pow (.lit (.int 10)) (.lit (.int 9)))])]), .set 7 (.call "_law_places" F__law_places [(.loc 4)]), .frz 5, .frz 14, .frz 7, .frz 4, .set 8 (.lst [(.loc 5), (.tup [(.lit (.str "few")), (.loc 14)]), (.tup [(.lit (.str "few")), (.lit (.int 0))]), (.tup [(.lit (.str "parking")), (.loc 7)]), (.tup [(.lit (.str "parking")), (.rev (.loc 7))]), (.tup [(.lit (.str "parking")), (.loc 4)])]), .frz 6, .set 8 (.bin .add (.loc 8) (.lst [(.tup [(.lit (.str "parking")), (.bin .add (.bin .add (.sli (.loc 7) .nop (.loc 13)) (.tup [(.loc 6)])) (.sli (.loc 7) (.bin .add (.loc 13) (.lit (.int 1))) .nop))]), (.tup [(.lit (.str "few")), (.loc 6)]), (.tup [(.lit (.str "parking")), (.bi .list [(.loc 7)])])])), .set 8 (.bin .add (.loc 8) (.lst [(.bi .list [(.loc 5)]), (.lit .none), (.tup [])])), .frz 6, .frz 7, .set 8 (.bin .add (.loc 8) (.lst [(.tup [(.lit (.str "parking")), (.bin .add (.loc 7) (.tup [(.lit (.int 0))]))]), (.sli (.loc 5) .nop (.lit (.int 1))), (.bin .add (.loc 5) (.tup [(.lit (.int 0))])), (.tup [(.lit (.str "Few")), (.lit (.int 0))]), (.tup [(.loc 6), (.loc 7)]), (.tup [(.lit (.str "parking")), (.loc 6)])])), .forr (.one 9) (.loc 8) [.par [15, 16] [(.bi .repr [(.loc 9)]), (.call "_law_fault" F__law_fault [(.loc 4), (.loc 9)])], .ite (.or (.cmp .ne (.bi .repr [(.call "judge_parking" F_judge_parking [(.loc 4), (.loc 9)])]) (.bi .repr [(.loc 16)])) (.cmp .ne (.bi .repr [(.loc 9)]) (.loc 15))) [.ret (.lit (.bool false))] [], .ite (.and (.cmp .isn (.loc 16) (.lit .none)) (.cmp .ne (.idx (.loc 9) (.lit (.int 0))) (.idx (.loc 5) (.lit (.int 0))))) [.ret (.lit (.bool false))] []], .set 10 (.bi .tuple [(.call "_law_mixed" F__law_mixed [(.loc 1), (.bi .list [(.loc 4)])])]), .frz 6, .forr (.one 9) (.lst [(.loc 10), (.bin .add (.bin .add (.sli (.loc 4) .nop (.loc 13)) (.tup [(.loc 6)])) (.sli (.loc 4) (.bin .add (.loc 13) (.lit (.int 1))) .nop)), (.bi .list [(.loc 4)]), (.bin .add (.loc 4) (.tup [(.lit (.int 0))])), (.sli (.loc 4) (.lit (.int 1)) .nop), (.lit .none), (.loc 6)]) [.ite (.cmp .ne (.bi .repr [(.call "is_parking" F_is_parking [(.loc 9)])]) (.bi .repr [(.call "_law_is_any" F__law_is_any [(.loc 9)])])) [.ret (.lit (.bool false))] []], .ite (.cmp .ne (.bi .repr [(.loc 4)]) (.loc 11)) [.ret (.lit (.bool false))] []], .ret (.and (.cmp .eq (.call "parking_paper" F_parking_paper [(.tup [(.lit (.int 1)), (.lit (.int 1))])]) (.tup [(.lit (.str "few")), (.lit (.int 0))])) (.cmp (.isb true) (.call "is_parking" F_is_parking [(.tup [(.lit (.int 1)), (.lit (.int 0)), (.lit (.int 1))])]) (.lit (.bool true))))]
end K_roundswaps_k15_parkings_judged
/-! parkings: the plain law -/
namespace Park
/-! ### few in a stretch -/
theorem count_le (a : Int) : ∀ l : List Int, l.Nodup → l.countP (fun z => decide (z = a)) ≤ 1
  | [], _ => by simp
  | b :: l, h => by
    rw [List.nodup_cons] at h
    rw [List.countP_cons]
    by_cases e : b = a
    · have : l.countP (fun z => decide (z = a)) = 0 := by
        rw [List.countP_eq_zero]
        intro z hz q
        have := of_decide_eq_true q
        subst this
        subst e
        exact h.1 hz
      rw [this]
      simp [e]
    · have := count_le a l h.2
      simp only [e, decide_false]
      simpa using this
theorem nodup_len : ∀ (d : Nat) (l : List Int) (lo : Int), l.Nodup → (∀ z ∈ l, lo ≤ z ∧ z < lo + d) → l.length ≤ d
  | 0, l, lo, _, h => by
    cases l with
    | nil => simp
    | cons z l => have := h z List.mem_cons_self; omega
  | d + 1, l, lo, hn, h => by
    have h1 := nodup_len d (l.filter fun z => !decide (z = lo + d)) lo (hn.filter _) fun z hz => by
      obtain ⟨h1, h2⟩ := List.mem_filter.mp hz
      have := h z h1
      simp only [Bool.not_eq_true', decide_eq_false_iff_not] at h2
      omega
    have h2 := count_le (lo + d) l hn
    have h3 := List.length_eq_countP_add_countP (fun z => decide (z = lo + d)) (l := l)
    rw [← List.countP_eq_length_filter] at h1
    have h4 : List.countP (fun a => decide ¬(decide (a = lo + ↑d) = true)) l = List.countP (fun z => !decide (z = lo + ↑d)) l := by
      congr 1
      funext z
      by_cases e : z = lo + d <;> simp [e]
    rw [h4] at h3
    omega
/-! ### round the street -/
theorem mod_ne {n : Nat} {a : Int} {j k : Nat} (hj : j < k) (hk : k < n) : (a + j) % (n : Int) ≠ (a + k) % (n : Int) := by
  intro e
  have h := Int.emod_emod_of_dvd
  have h1 : ((a + k) - (a + j)) % (n : Int) = 0 := Int.emod_eq_emod_iff_emod_sub_eq_zero.mp e.symm
  have h2 : (a + (k : Int)) - (a + j) = ((k - j : Nat) : Int) := by omega
  rw [h2, Int.emod_eq_of_lt (by omega) (by omega)] at h1
  omega
def street (n : Nat) (a : Int) : List Int := (List.range n).map fun (k : Nat) => (a + k) % (n : Int)
theorem street_nodup (n : Nat) (a : Int) : (street n a).Nodup := by
  unfold street
  rw [List.nodup_iff_pairwise_ne, List.pairwise_map]
  refine List.Pairwise.imp_of_mem (fun {j k} hj hk hlt => ?_) List.pairwise_lt_range
  exact mod_ne hlt (List.mem_range.mp hk)
/-- the first free place from a on -/
def firstF (n : Nat) (T : List Int) (a : Int) : Option Int := (street n a).find? fun x => !decide (x ∈ T)
theorem subset_len : ∀ (l T : List Int), l.Nodup → (∀ z ∈ l, z ∈ T) → l.length ≤ T.length
  | [], T, _, _ => by simp
  | z :: l, T, hn, h => by
    rw [List.nodup_cons] at hn
    have hz := h z List.mem_cons_self
    have h1 := subset_len l (T.erase z) hn.2 fun y hy => by
      have hne : y ≠ z := fun e => hn.1 (e ▸ hy)
      exact (List.mem_erase_of_ne hne).mpr (h y (List.mem_cons_of_mem _ hy))
    have h2 := List.length_erase_of_mem hz
    have h3 := List.length_pos_of_mem hz
    simp only [List.length_cons]
    omega
theorem street_len (n : Nat) (a : Int) : (street n a).length = n := by simp [street]
theorem firstF_some {n : Nat} {T : List Int} {a : Int} (h : T.length < n) : ∃ f, firstF n T a = some f := by
  cases e : firstF n T a with
  | some f => exact ⟨f, rfl⟩
  | none =>
    exfalso
    unfold firstF at e
    rw [List.find?_eq_none] at e
    have := subset_len (street n a) T (street_nodup n a) fun z hz => by
      have := e z hz
      simpa using this
    rw [street_len] at this
    omega
theorem firstF_at {n : Nat} {T : List Int} {a f : Int} (h : firstF n T a = some f) : f ∉ T ∧ ∃ k : Nat, k < n ∧ f = (a + k) % (n : Int) ∧ ∀ j : Nat, j < k → (a + j) % (n : Int) ∈ T := by
  unfold firstF at h
  rw [List.find?_eq_some_iff_getElem] at h
  obtain ⟨h1, i, hi, h2, h3⟩ := h
  have hi' : i < n := by rw [street_len] at hi; exact hi
  refine ⟨by simpa using h1, i, hi', ?_, fun j hj => ?_⟩
  · rw [← h2]; simp [street]
  · have := h3 j hj
    simpa [street] using this
def parks (n : Nat) : List Int → List Int → Option (List Int)
  | T, [] => some T
  | T, a :: r => (firstF n T a).bind fun f => parks n (T ++ [f]) r
theorem parks_some {n : Nat} : ∀ (row T : List Int), T.length + row.length ≤ n → ∃ T', parks n T row = some T' ∧ T'.length = T.length + row.length
  | [], T, h => ⟨T, rfl, by simp⟩
  | a :: r, T, h => by
    simp only [List.length_cons] at h
    obtain ⟨f, e⟩ := firstF_some (n := n) (T := T) (a := a) (by omega)
    obtain ⟨T', e2, e3⟩ := parks_some (n := n) r (T ++ [f]) (by rw [List.length_append, List.length_singleton]; omega)
    refine ⟨T', by unfold parks; rw [e]; exact e2, ?_⟩
    rw [e3]; simp; omega
/-- how far from behind p on -/
def gap (n : Nat) (p z : Int) : Int := (z - p - 1) % (n : Int)
theorem gap_mod (n : Nat) (p z : Int) : gap n p (z % (n : Int)) = gap n p z := by
  unfold gap
  have e1 : z % (n : Int) - p - 1 = z % (n : Int) + (-p - 1) := by omega
  have e2 : z - p - 1 = z + (-p - 1) := by omega
  rw [e1, e2, Int.emod_add_emod]
theorem gap_mod' (n : Nat) (p z : Int) : gap n (p % (n : Int)) z = gap n p z := by
  unfold gap
  have e1 : z - p % (n : Int) - 1 = (z - 1) - p % (n : Int) := by omega
  have e2 : z - p - 1 = (z - 1) - p := by omega
  rw [e1, e2, Int.sub_emod, Int.emod_emod_of_dvd _ (Int.dvd_refl _), ← Int.sub_emod]
theorem gap_succ (n : Nat) (p z : Int) : gap n p (z + 1) = (gap n p z + 1) % (n : Int) := by
  unfold gap
  rw [Int.emod_add_emod]
  congr 1
  omega
theorem gap_lt {n : Nat} (hn : 0 < n) (p z : Int) : 0 ≤ gap n p z ∧ gap n p z < n := ⟨Int.emod_nonneg _ (by omega), Int.emod_lt_of_pos _ (by omega)⟩
theorem gap_last {n : Nat} (hn : 0 < n) {p z : Int} (h : gap n p z = n - 1) : z % (n : Int) = p % (n : Int) := by
  have h1 : (z - p) % (n : Int) = 0 := by
    have e : z - p = (z - p - 1) + 1 := by omega
    rw [e, ← Int.emod_add_emod]
    have h : (z - p - 1) % (n : Int) = n - 1 := h
    rw [h]
    have e2 : (n : Int) - 1 + 1 = n := by omega
    rw [e2, Int.emod_self]
  exact Int.emod_eq_emod_iff_emod_sub_eq_zero.mpr h1
theorem gap_step {n : Nat} {p : Int} {a : Int} (hn : 0 < n) : ∀ k : Nat, (∀ j : Nat, j < k → (a + j) % (n : Int) ≠ p % (n : Int)) → gap n p (a + k) = gap n p a + k
  | 0, h => by simp
  | k + 1, h => by
    have ih := gap_step hn k fun j hj => h j (by omega)
    have hk := h k (by omega)
    have e1 : a + ((k + 1 : Nat) : Int) = (a + k) + 1 := by omega
    rw [e1, gap_succ]
    obtain ⟨b1, b2⟩ := gap_lt hn p (a + k)
    have : gap n p (a + k) ≠ n - 1 := fun q => hk (gap_last hn q)
    rw [Int.emod_eq_of_lt (by omega) (by omega), ih]
    omega
/-- who parks behind p does so no earlier than it comes -/
theorem parks_gap {n : Nat} {p : Int} (hn : 0 < n) (hp : p % (n : Int) = p) : ∀ (row T T' : List Int), parks n T row = some T' → p ∉ T' → ∃ S, T' = T ++ S ∧ S.length = row.length ∧ ∀ x : Int, S.countP (fun z => decide (gap n p z ≤ x)) ≤ row.countP fun z => decide (gap n p z ≤ x)
  | [], T, T', h, _ => by
    cases h
    exact ⟨[], by simp, rfl, fun x => by simp⟩
  | a :: r, T, T', h, hT => by
    unfold parks at h
    obtain ⟨f, e1, e2⟩ := Option.bind_eq_some_iff.mp h
    obtain ⟨S, hS, hl, hc⟩ := parks_gap hn hp r (T ++ [f]) T' e2 hT
    obtain ⟨hf, k, hk, ef, hj⟩ := firstF_at e1
    have hin : ∀ z, z ∈ T → z ≠ p := fun z hz q => hT (by rw [hS, ← q]; simp [hz])
    have hfp : f ≠ p := fun q => hT (by rw [hS, ← q]; simp)
    have hg : gap n p f = gap n p a + k := by
      rw [ef, gap_mod]
      exact gap_step hn k fun j hjk q => hin _ (hj j hjk) (by rw [q, hp])
    refine ⟨f :: S, by rw [hS]; simp, by simp [hl], fun x => ?_⟩
    rw [List.countP_cons, List.countP_cons]
    have := hc x
    by_cases q : gap n p f ≤ x
    · have q' : gap n p a ≤ x := by omega
      simp only [q, q', decide_true, if_true]
      omega
    · simp only [q, decide_false]
      simp only [Bool.false_eq_true, if_false]
      omega
theorem parks_keep {n : Nat} (hn : 0 < n) : ∀ (row T T' : List Int), parks n T row = some T' → T.Nodup → (∀ z ∈ T, 0 ≤ z ∧ z < (n : Int)) → T'.Nodup ∧ ∀ z ∈ T', 0 ≤ z ∧ z < (n : Int)
  | [], T, T', h, h1, h2 => by cases h; exact ⟨h1, h2⟩
  | a :: r, T, T', h, h1, h2 => by
    unfold parks at h
    obtain ⟨f, e1, e2⟩ := Option.bind_eq_some_iff.mp h
    obtain ⟨hf, k, hk, ef, hj⟩ := firstF_at e1
    refine parks_keep hn r (T ++ [f]) T' e2 ?_ fun z hz => ?_
    · rw [List.nodup_append]
      refine ⟨h1, by simp, fun x hx y hy e => ?_⟩
      simp only [List.mem_singleton] at hy
      subst hy; subst e; exact hf hx
    · rcases List.mem_append.mp hz with hz | hz
      · exact h2 z hz
      · simp only [List.mem_singleton] at hz
        subst hz
        rw [ef]
        exact ⟨Int.emod_nonneg _ (by omega), Int.emod_lt_of_pos _ (by omega)⟩
/-- p is the place that stays free -/
def Ok (n : Nat) (row : List Int) (p : Int) : Prop := ∀ x : Nat, x + 1 < n → x + 1 ≤ row.countP fun z => decide (gap n p z ≤ (x : Int))
theorem gap_inj {n : Nat} {p y z : Int} (hy : 0 ≤ y ∧ y < (n : Int)) (hz : 0 ≤ z ∧ z < (n : Int)) (e : gap n p y = gap n p z) : y = z := by
  have h := Int.emod_eq_emod_iff_emod_sub_eq_zero.mp e
  have e1 : y - p - 1 - (z - p - 1) = y - z := by omega
  rw [e1] at h
  have h2 := Int.emod_eq_emod_iff_emod_sub_eq_zero.mpr h
  rwa [Int.emod_eq_of_lt hy.1 hy.2, Int.emod_eq_of_lt hz.1 hz.2] at h2
theorem map_nodup {f : Int → Int} : ∀ l : List Int, l.Nodup → (∀ y ∈ l, ∀ z ∈ l, f y = f z → y = z) → (l.map f).Nodup
  | [], _, _ => by simp
  | a :: l, h, hi => by
    rw [List.nodup_cons] at h
    rw [List.map_cons, List.nodup_cons]
    refine ⟨fun q => ?_, map_nodup l h.2 fun y hy z hz => hi y (List.mem_cons_of_mem _ hy) z (List.mem_cons_of_mem _ hz)⟩
    obtain ⟨z, hz, e⟩ := List.mem_map.mp q
    have := hi z (List.mem_cons_of_mem _ hz) a List.mem_cons_self e
    subst this
    exact h.1 hz
theorem parks_ok {n : Nat} {p : Int} (hn : 0 < n) (hp : 0 ≤ p ∧ p < (n : Int)) {row T : List Int} (h : parks n [] row = some T) (hl : row.length + 1 = n) (hT : p ∉ T) : Ok n row p := by
  intro x hx
  have hpm : p % (n : Int) = p := Int.emod_eq_of_lt hp.1 hp.2
  obtain ⟨S, hS, hSl, hc⟩ := parks_gap hn hpm row [] T h hT
  rw [List.nil_append] at hS
  subst hS
  obtain ⟨k1, k2⟩ := parks_keep hn row [] T h (by simp) (by simp)
  refine Nat.le_trans ?_ (hc x)
  have h1 := List.length_eq_countP_add_countP (fun z => decide (gap n p z ≤ (x : Int))) (l := T)
  have h2 : (T.filter fun z => decide ¬(decide (gap n p z ≤ (x : Int)) = true)).length ≤ n - 1 - (x + 1) := by
    rw [← List.length_map (f := gap n p)]
    refine nodup_len (n - 1 - (x + 1)) _ ((x : Int) + 1) ?_ ?_
    · exact map_nodup _ (k1.filter _) fun y hy z hz e => gap_inj (k2 y (List.mem_filter.mp hy).1) (k2 z (List.mem_filter.mp hz).1) e
    · intro g hg
      obtain ⟨z, hz, rfl⟩ := List.mem_map.mp hg
      obtain ⟨hz1, hz2⟩ := List.mem_filter.mp hz
      obtain ⟨b1, b2⟩ := gap_lt hn p z
      have hz3 : ¬ gap n p z ≤ (x : Int) := by simpa using hz2
      have hne : gap n p z ≠ n - 1 := fun q => by
        have := gap_last hn q
        rw [hpm, Int.emod_eq_of_lt (k2 z hz1).1 (k2 z hz1).2] at this
        subst this
        exact hT hz1
      omega
  rw [← List.countP_eq_length_filter] at h2
  omega
theorem ok_uniq {n : Nat} {p q : Int} (hn : 0 < n) (hp : 0 ≤ p ∧ p < (n : Int)) (hq : 0 ≤ q ∧ q < (n : Int)) {row : List Int} (hl : row.length + 1 = n) (h : Ok n row p) (h' : Ok n row q) : p = q := by
  have wlog : ∀ p q : Int, 0 ≤ p → p < q → q < (n : Int) → Ok n row p → Ok n row q → False := by
    intro p q h0 hpq hqn h h'
    obtain ⟨s, hs⟩ : ∃ s : Nat, q - p = s := ⟨(q - p).toNat, by omega⟩
    have a1 := h (s - 1) (by omega)
    have a2 := h' (n - 1 - s) (by omega)
    have key : ∀ z : Int, decide (gap n q z ≤ ((n - 1 - s : Nat) : Int)) = decide ¬(decide (gap n p z ≤ ((s - 1 : Nat) : Int)) = true) := by
      intro z
      obtain ⟨b1, b2⟩ := gap_lt hn p z
      obtain ⟨b3, b4⟩ := gap_lt hn q z
      have e : gap n q z = (gap n p z - s) % (n : Int) := by
        unfold gap
        rw [Int.sub_emod ((z - p - 1) % (n : Int)), Int.emod_emod_of_dvd _ (Int.dvd_refl _), ← Int.sub_emod]
        congr 1
        omega
      rcases Int.lt_or_le (gap n p z) s with c | c
      · have e2 : gap n q z = gap n p z - s + n := by
          rw [e, ← Int.add_emod_right, Int.emod_eq_of_lt (by omega) (by omega)]
        have w1 : ¬ gap n q z ≤ ((n - 1 - s : Nat) : Int) := by omega
        have w2 : gap n p z ≤ ((s - 1 : Nat) : Int) := by omega
        rw [decide_eq_false w1, decide_eq_true w2]
        rfl
      · have e2 : gap n q z = gap n p z - s := by rw [e, Int.emod_eq_of_lt (by omega) (by omega)]
        have w1 : gap n q z ≤ ((n - 1 - s : Nat) : Int) := by omega
        have w2 : ¬ gap n p z ≤ ((s - 1 : Nat) : Int) := by omega
        rw [decide_eq_true w1, decide_eq_false w2]
        rfl
    have e1 := List.length_eq_countP_add_countP (fun z => decide (gap n p z ≤ ((s - 1 : Nat) : Int))) (l := row)
    have e2 : List.countP (fun z => decide (gap n q z ≤ ((n - 1 - s : Nat) : Int))) row = List.countP (fun z => decide ¬(decide (gap n p z ≤ ((s - 1 : Nat) : Int)) = true)) row := by
      congr 1
      funext z
      exact key z
    omega
  rcases Int.lt_trichotomy p q with c | c | c
  · exact (wlog p q hp.1 c hq.2 h h').elim
  · exact c
  · exact (wlog q p hq.1 c hp.2 h' h).elim
theorem ok_perm {n : Nat} {p : Int} {row late : List Int} (h : row.Perm late) (o : Ok n row p) : Ok n late p := fun x hx => by
  rw [← h.countP_eq]
  exact o x hx
theorem ok_shift {n : Nat} {p m : Int} {row : List Int} (o : Ok n row p) : Ok n (row.map fun a => (a + m) % (n : Int)) ((p + m) % (n : Int)) := fun x hx => by
  rw [List.countP_map]
  have := o x hx
  have e : (fun z => decide (gap n ((p + m) % (n : Int)) z ≤ (x : Int))) ∘ (fun a => (a + m) % (n : Int)) = fun z => decide (gap n p z ≤ (x : Int)) := by
    funext z
    show decide (gap n ((p + m) % (n : Int)) ((z + m) % (n : Int)) ≤ (x : Int)) = _
    rw [gap_mod, gap_mod']
    unfold gap
    have : z + m - (p + m) - 1 = z - p - 1 := by omega
    rw [this]
  rw [e]
  exact this
/-- a parking -/
def IsPark (row : List Int) : Prop := ∀ x : Nat, x < row.length → x + 1 ≤ row.countP fun z => decide (z ≤ (x : Int))
theorem ok_last {n : Nat} {row : List Int} (hl : row.length + 1 = n) (hr : ∀ z ∈ row, 0 ≤ z ∧ z < (n : Int)) : Ok n row (n - 1) ↔ IsPark row := by
  have key : ∀ x : Nat, List.countP (fun z => decide (gap n (n - 1) z ≤ (x : Int))) row = List.countP (fun z => decide (z ≤ (x : Int))) row := fun x => by
    refine List.countP_congr fun z hz => ?_
    have : gap n (n - 1) z = z := by
      unfold gap
      have e : z - ((n : Int) - 1) - 1 = z - n := by omega
      rw [e, Int.sub_emod, Int.emod_self, Int.sub_zero, Int.emod_emod_of_dvd _ (Int.dvd_refl _), Int.emod_eq_of_lt (hr z hz).1 (hr z hz).2]
    rw [this]
  constructor
  · intro o x hx
    have := o x (by omega)
    rwa [key] at this
  · intro o x hx
    rw [key]
    exact o x (by omega)
/-- the place left free -/
def freeF (n : Nat) (T : List Int) : Option Int := ((List.range n).map fun (k : Nat) => (k : Int)).find? fun x => !decide (x ∈ T)
theorem street0 (n : Nat) : street n 0 = (List.range n).map fun (k : Nat) => (k : Int) := by
  unfold street
  refine List.map_congr_left fun k hk => ?_
  rw [Int.zero_add, Int.emod_eq_of_lt (by omega) (by have := List.mem_range.mp hk; omega)]
theorem free_is {n : Nat} (hn : 0 < n) {row : List Int} (hl : row.length + 1 = n) : ∃ T p, parks n [] row = some T ∧ T.length = row.length ∧ freeF n T = some p ∧ (0 ≤ p ∧ p < (n : Int)) ∧ Ok n row p := by
  obtain ⟨T, e1, e2⟩ := parks_some (n := n) row [] (by simp; omega)
  obtain ⟨p, e3⟩ := firstF_some (n := n) (T := T) (a := 0) (by simp at e2; omega)
  have e4 : freeF n T = some p := by unfold firstF at e3; rw [street0] at e3; exact e3
  obtain ⟨h1, k, hk, e5, _⟩ := firstF_at e3
  have hp : 0 ≤ p ∧ p < (n : Int) := by rw [e5]; exact ⟨Int.emod_nonneg _ (by omega), Int.emod_lt_of_pos _ (by omega)⟩
  exact ⟨T, p, e1, by simpa using e2, e4, hp, parks_ok hn hp e1 hl h1⟩
end Park
/-! cars on a street with an end: the plain law -/
namespace Park
/-- f is the first free place from a on -/
def Lin (T : List Int) (a f : Int) : Prop := a ≤ f ∧ f ∉ T ∧ ∀ y, a ≤ y → y < f → y ∈ T
theorem lin_uniq {T : List Int} {a f g : Int} (h : Lin T a f) (h' : Lin T a g) : f = g := by
  rcases Int.lt_trichotomy f g with c | c | c
  · exact (h.2.1 (h'.2.2 f h.1 c)).elim
  · exact c
  · exact (h'.2.1 (h.2.2 g h'.1 c)).elim
def ladder (n : Nat) (a : Int) : List Int := (List.range n).map fun (k : Nat) => a + k
theorem ladder_nodup (n : Nat) (a : Int) : (ladder n a).Nodup := by
  unfold ladder
  rw [List.nodup_iff_pairwise_ne, List.pairwise_map]
  exact List.Pairwise.imp (fun {j k} hlt => by omega) List.pairwise_lt_range
def linF (T : List Int) (a : Int) : Int := ((ladder (T.length + 1) a).find? fun x => !decide (x ∈ T)).getD a
theorem linF_lin (T : List Int) (a : Int) : Lin T a (linF T a) := by
  unfold linF
  cases e : (ladder (T.length + 1) a).find? fun x => !decide (x ∈ T) with
  | none =>
    exfalso
    rw [List.find?_eq_none] at e
    have := subset_len (ladder (T.length + 1) a) T (ladder_nodup _ _) fun z hz => by
      have := e z hz
      simpa using this
    simp [ladder] at this
    omega
  | some f =>
    rw [List.find?_eq_some_iff_getElem] at e
    obtain ⟨h1, i, hi, h2, h3⟩ := e
    have ef : f = a + i := by rw [← h2]; simp [ladder]
    refine ⟨by show a ≤ f; omega, by simpa using h1, fun y hy hlt => ?_⟩
    have hlt : y < f := hlt
    have := h3 (y - a).toNat (by omega)
    have e2 : a + (((y - a).toNat : Nat) : Int) = y := by omega
    simp only [ladder, List.getElem_map, List.getElem_range, e2] at this
    simpa using this
theorem linF_le (T : List Int) (a : Int) : linF T a ≤ a + T.length := by
  unfold linF
  cases e : (ladder (T.length + 1) a).find? fun x => !decide (x ∈ T) with
  | none => simp; omega
  | some f =>
    have := List.mem_of_find?_eq_some e
    obtain ⟨k, hk, rfl⟩ := List.mem_map.mp this
    have := List.mem_range.mp hk
    simp only [Option.getD_some]
    omega
def linP : List Int → List Int → List Int
  | T, [] => T
  | T, a :: r => linP (T ++ [linF T a]) r
theorem linP_pre : ∀ (row T : List Int), ∃ S, linP T row = T ++ S ∧ S.length = row.length
  | [], T => ⟨[], by simp [linP], rfl⟩
  | a :: r, T => by
    obtain ⟨S, e, h⟩ := linP_pre r (T ++ [linF T a])
    exact ⟨linF T a :: S, by unfold linP; rw [e]; simp, by simp [h]⟩
theorem linP_len (row T : List Int) : (linP T row).length = T.length + row.length := by
  obtain ⟨S, e, h⟩ := linP_pre row T
  rw [e, List.length_append, h]
theorem linP_at : ∀ (row T : List Int) (k : Nat) (hk : k < row.length), ∃ f, (linP T row)[T.length + k]? = some f ∧ f = linF ((linP T row).take (T.length + k)) row[k]
  | [], T, k, hk => by simp at hk
  | a :: r, T, 0, hk => by
    obtain ⟨S, e, h⟩ := linP_pre r (T ++ [linF T a])
    refine ⟨linF T a, ?_, ?_⟩
    · unfold linP
      rw [e, Nat.add_zero, List.append_assoc, List.getElem?_append_right (Nat.le_refl _)]
      simp
    · unfold linP
      rw [e, Nat.add_zero, List.append_assoc, List.take_left']
      · rfl
      · rfl
  | a :: r, T, k + 1, hk => by
    obtain ⟨f, h1, h2⟩ := linP_at r (T ++ [linF T a]) k (by simpa using hk)
    have e : (T ++ [linF T a]).length + k = T.length + (k + 1) := by simp; omega
    rw [e] at h1 h2
    exact ⟨f, h1, h2⟩
/-- the places that a row's cars take -/
def places (row : List Int) : List Int := linP [] row
theorem places_len (row : List Int) : (places row).length = row.length := by unfold places; rw [linP_len]; simp
theorem places_at (row : List Int) (k : Nat) (hk : k < row.length) : ∃ f, (places row)[k]? = some f ∧ f = linF ((places row).take k) row[k] := by
  obtain ⟨f, h1, h2⟩ := linP_at row [] k hk
  simp only [List.length_nil, Nat.zero_add] at h1 h2
  exact ⟨f, h1, h2⟩
/-- v is such a list -/
def Right (row v : List Int) : Prop := v.length = row.length ∧ ∀ k (h : k < row.length) (h' : k < v.length), v[k] = linF (v.take k) row[k]
theorem right_places (row : List Int) : Right row (places row) := by
  refine ⟨places_len row, fun k h h' => ?_⟩
  obtain ⟨f, e1, e2⟩ := places_at row k h
  rw [List.getElem?_eq_getElem h'] at e1
  rw [Option.some.inj e1]
  exact e2
/-- on a round street with one more place, the last one staying free, nobody passes the end -/
theorem lin_round {m : Nat} {T : List Int} {a f : Int} (ha : 0 ≤ a ∧ a < (m : Int)) (h : firstF (m + 1) T a = some f) (hT : (m : Int) ∉ T) (hf : f ≠ m) : f = linF T a := by
  obtain ⟨h1, k, hk, ef, hj⟩ := firstF_at h
  have key : ∀ j : Nat, j ≤ k → (a + j) % ((m + 1 : Nat) : Int) = a + j ∧ a + j < m := by
    intro j
    induction j with
    | zero =>
      intro _
      refine ⟨?_, by omega⟩
      rw [show a + ((0 : Nat) : Int) = a by omega]
      exact Int.emod_eq_of_lt ha.1 (by omega)
    | succ j ih =>
      intro hjk
      obtain ⟨i1, i2⟩ := ih (by omega)
      have hm : (a + ((j + 1 : Nat) : Int)) % ((m + 1 : Nat) : Int) = a + ((j + 1 : Nat) : Int) := Int.emod_eq_of_lt (by omega) (by omega)
      refine ⟨hm, ?_⟩
      rcases Int.lt_or_le (a + ((j + 1 : Nat) : Int)) m with c | c
      · exact c
      · exfalso
        have e : a + ((j + 1 : Nat) : Int) = m := by omega
        rw [e] at hm
        rcases Nat.lt_or_eq_of_le hjk with q | q
        · have := hj (j + 1) q
          rw [e, hm] at this
          exact hT this
        · rw [← q, e, hm] at ef
          exact hf ef
  obtain ⟨k1, k2⟩ := key k (Nat.le_refl _)
  rw [k1] at ef
  refine lin_uniq (T := T) (a := a) ⟨by omega, h1, fun y hy hlt => ?_⟩ (linF_lin T a)
  have := hj (y - a).toNat (by omega)
  have e2 : a + (((y - a).toNat : Nat) : Int) = y := by omega
  rw [(key (y - a).toNat (by omega)).1, e2] at this
  exact this
theorem lin_parks {m : Nat} : ∀ (row T T' : List Int), (∀ z ∈ row, 0 ≤ z ∧ z < (m : Int)) → parks (m + 1) T row = some T' → (m : Int) ∉ T' → linP T row = T'
  | [], T, T', _, h, _ => by cases h; rfl
  | a :: r, T, T', hb, h, hT => by
    unfold parks at h
    obtain ⟨f, e1, e2⟩ := Option.bind_eq_some_iff.mp h
    obtain ⟨S, hS, _, _⟩ := parks_gap (n := m + 1) (p := m) (by omega) (Int.emod_eq_of_lt (by omega) (by omega)) r (T ++ [f]) T' e2 hT
    have hTm : (m : Int) ∉ T := fun q => hT (by rw [hS]; simp [q])
    have hfm : f ≠ m := fun q => hT (by rw [hS, ← q]; simp)
    have := lin_round (hb a List.mem_cons_self) e1 hTm hfm
    unfold linP
    rw [← this]
    exact lin_parks r (T ++ [f]) T' (fun z hz => hb z (List.mem_cons_of_mem _ hz)) e2 hT
/-- a parking's cars all find places -/
theorem park_places {row : List Int} (h0 : ∀ z ∈ row, 0 ≤ z) (h : IsPark row) : ∀ z ∈ places row, 0 ≤ z ∧ z < (row.length : Int) := by
  by_cases hm : row.length = 0
  · intro z hz
    have := List.eq_nil_of_length_eq_zero (by rw [places_len]; exact hm)
    rw [this] at hz; cases hz
  have hb : ∀ z ∈ row, 0 ≤ z ∧ z < (row.length : Int) := fun z hz => by
    refine ⟨h0 z hz, ?_⟩
    have hl := h (row.length - 1) (by omega)
    have hle := List.countP_le_length (p := fun z => decide (z ≤ ((row.length - 1 : Nat) : Int))) (l := row)
    have he : row.countP (fun z => decide (z ≤ ((row.length - 1 : Nat) : Int))) = row.length := by omega
    rw [List.countP_eq_length] at he
    have := of_decide_eq_true (he z hz)
    omega
  obtain ⟨T, p, e1, e2, _, hp, ok⟩ := free_is (n := row.length + 1) (by omega) (row := row) rfl
  have hlast : Ok (row.length + 1) row (((row.length + 1 : Nat) : Int) - 1) := (ok_last rfl fun z hz => ⟨(hb z hz).1, by have := (hb z hz).2; omega⟩).mpr h
  have hpm : p = (row.length : Int) := by
    have := ok_uniq (n := row.length + 1) (by omega) hp ⟨by omega, by omega⟩ rfl ok hlast
    omega
  obtain ⟨k1, k2⟩ := parks_keep (n := row.length + 1) (by omega) row [] T e1 (by simp) (by simp)
  have hT : (row.length : Int) ∉ T := by
    intro q
    have : freeF (row.length + 1) T = some p := by assumption
    unfold freeF at this
    have h3 := List.find?_some this
    rw [hpm] at h3
    simp at h3
    exact h3 q
  have := lin_parks row [] T hb e1 hT
  unfold places
  rw [this]
  intro z hz
  have h4 := k2 z hz
  refine ⟨h4.1, ?_⟩
  rcases Int.lt_or_le z row.length with c | c
  · exact c
  · exfalso
    have : z = row.length := by omega
    subst this
    exact hT hz
/-- right places within the street: a parking -/
theorem right_park {row v : List Int} (h : Right row v) (hb : ∀ z ∈ v, 0 ≤ z ∧ z < (row.length : Int)) : IsPark row := by
  obtain ⟨hl, hr⟩ := h
  have spec : ∀ k (h : k < row.length) (h' : k < v.length), Lin (v.take k) row[k] v[k] := fun k h h' => by
    rw [hr k h h']
    exact linF_lin _ _
  have nd : v.Nodup := by
    rw [List.nodup_iff_pairwise_ne, List.pairwise_iff_getElem]
    intro i j hi hj hij e
    have := (spec j (by omega) hj).2.1
    apply this
    rw [← e, List.mem_take_iff_getElem]
    exact ⟨i, by omega, rfl⟩
  have cmp : ∀ x : Int, v.countP (fun z => decide (z ≤ x)) ≤ row.countP (fun z => decide (z ≤ x)) := by
    intro x
    have gen : ∀ (a b : List Int), a.length = b.length → (∀ k (h : k < a.length) (h' : k < b.length), a[k] ≤ b[k]) → b.countP (fun z => decide (z ≤ x)) ≤ a.countP (fun z => decide (z ≤ x)) := by
      intro a
      induction a with
      | nil => intro b hb _; cases b with | nil => simp | cons _ _ => simp at hb
      | cons y a ih =>
        intro b hb hle
        cases b with
        | nil => simp at hb
        | cons z b =>
          have h0 := hle 0 (by simp) (by simp)
          have h1 := ih b (by simpa using hb) fun k h h' => by
            have := hle (k + 1) (by simpa using h) (by simpa using h')
            simpa using this
          rw [List.countP_cons, List.countP_cons]
          simp only [List.getElem_cons_zero] at h0
          by_cases q : z ≤ x
          · have q' : y ≤ x := by omega
            simp only [q, q', decide_true, if_true]; omega
          · simp only [q, decide_false, Bool.false_eq_true, if_false]; omega
    exact gen row v hl.symm fun k h h' => (spec k h h').1
  intro x hx
  refine Nat.le_trans ?_ (cmp x)
  have h1 := List.length_eq_countP_add_countP (fun z => decide (z ≤ (x : Int))) (l := v)
  have h2 : (v.filter fun z => decide ¬(decide (z ≤ (x : Int)) = true)).length ≤ row.length - (x + 1) := by
    refine nodup_len (row.length - (x + 1)) _ ((x : Int) + 1) (nd.filter _) fun z hz => ?_
    obtain ⟨z1, z2⟩ := List.mem_filter.mp hz
    have z3 : ¬ z ≤ (x : Int) := by simpa using z2
    have := hb z z1
    omega
  rw [← List.countP_eq_length_filter] at h2
  omega
theorem right_uniq {row v w : List Int} (h : Right row v) (h' : Right row w) : v = w := by
  have key : ∀ k, k ≤ row.length → v.take k = w.take k := by
    intro k
    induction k with
    | zero => intro _; simp
    | succ k ih =>
      intro hk
      have hv : k < v.length := by have := h.1; omega
      have hw : k < w.length := by have := h'.1; omega
      have e := ih (by omega)
      rw [List.take_succ_eq_append_getElem hv, List.take_succ_eq_append_getElem hw, e]
      congr 2
      rw [h.2 k (by omega) hv, h'.2 k (by omega) hw, e]
  have := key row.length (Nat.le_refl _)
  rwa [List.take_of_length_le (by rw [h.1]; omega), List.take_of_length_le (by rw [h'.1]; omega)] at this
end Park
namespace K_roundswaps_k15_parkings_judged
open PySem Pm Park
theorem pick_eq : F__law_pick = F_pick := rfl
theorem mixed_eq : F__law_mixed = F_mixed := rfl
def fewL (row : List Int) : List Int := (rgL row.length).filter fun x => decide (((row.filter fun z => decide (z ≤ x)).length : Int) ≤ x)
def headD : List Int → D
  | [] => .none
  | x :: _ => .int x
theorem few_eq (row : List Int) (ss : SS) (hl : row.length ≤ SL) : F_few_place [.v (.tuple (iL row))] ss = some (.v (headD (fewL row)), ss) := by
  refine (runF_eq (np := 1) (N := 4) (body := B_few_place) (args := [.v (.tuple (iL row))]) rfl).trans ?_
  have h0 : ev (.lc (.loc 2) (.one 2) (.rg1 (.bi .len [(.loc 0)])) [(.cmp .le (.bi .len [(.lc (.loc 3) (.one 3) (.loc 0) [(.cmp .le (.loc 3) (.loc 2))])]) (.loc 2))]) [.v (.tuple (iL row)), .un, .un, .un] ss = some (.fr (iL (fewL row)), ss) := by
    refine ev_lc_filter (l := rgL row.length) (rg1_ok (n := row.length) ?_ hl) (by rw [rgL_len]; exact hl) fun x _ => ?_
    · simp [e_lit, e_glo, e_loc, e_bin, e_neg, e_not, e_and, e_or, e_cmp, e_cmp2, e_ife, e_tup, e_lst, e_idx, e_sli, e_nop, e_rev, e_bi, e_met, e_call, e_newk, e_newt, e_dhas, e_dget, e_dget2, e_star, e_rg1, e_rg2, e_enm, e_zip, e_sget, e_slen, es_nil, es_cons, toD, toB, toE, toI, toDs, toX, toC, O.f, rd, rds, esc, asB, bl, itR, seqOf, dispR, condR, getR, slR, setS, toS, toSet, toAs, toA, callD, isOut, cmpD, ordD, binD, addD, subD, modD, negD, biD, lenD, intD, absD, max2D, min2D, tupleD, listD, idxD, lcB, TGt.slots, killS, bindT, bindTs, AV.sv, isTD, isT, tag, isTs, isNone, R.lf, lf, lf.lfs, isBo, iL_len, iL_get]
    · have h2 : ev (.lc (.loc 3) (.one 3) (.loc 0) [(.cmp .le (.loc 3) (.loc 2))]) [.v (.tuple (iL row)), .un, .v (.int x), .un] ss = some (.fr (iL (row.filter fun z => decide (z ≤ x))), ss) := by
        refine ev_lc_filter (l := row) ?_ hl fun z _ => ?_
        · simp [e_lit, e_glo, e_loc, e_bin, e_neg, e_not, e_and, e_or, e_cmp, e_cmp2, e_ife, e_tup, e_lst, e_idx, e_sli, e_nop, e_rev, e_bi, e_met, e_call, e_newk, e_newt, e_dhas, e_dget, e_dget2, e_star, e_rg1, e_rg2, e_enm, e_zip, e_sget, e_slen, es_nil, es_cons, toD, toB, toE, toI, toDs, toX, toC, O.f, rd, rds, esc, asB, bl, itR, seqOf, dispR, condR, getR, slR, setS, toS, toSet, toAs, toA, callD, isOut, cmpD, ordD, binD, addD, subD, modD, negD, biD, lenD, intD, absD, max2D, min2D, tupleD, listD, idxD, lcB, TGt.slots, killS, bindT, bindTs, AV.sv, isTD, isT, tag, isTs, isNone, R.lf, lf, lf.lfs, isBo, iL_len, iL_get]
        · simp [e_lit, e_glo, e_loc, e_bin, e_neg, e_not, e_and, e_or, e_cmp, e_cmp2, e_ife, e_tup, e_lst, e_idx, e_sli, e_nop, e_rev, e_bi, e_met, e_call, e_newk, e_newt, e_dhas, e_dget, e_dget2, e_star, e_rg1, e_rg2, e_enm, e_zip, e_sget, e_slen, es_nil, es_cons, toD, toB, toE, toI, toDs, toX, toC, O.f, rd, rds, esc, asB, bl, itR, seqOf, dispR, condR, getR, slR, setS, toS, toSet, toAs, toA, callD, isOut, cmpD, ordD, binD, addD, subD, modD, negD, biD, lenD, intD, absD, max2D, min2D, tupleD, listD, idxD, lcB, TGt.slots, killS, bindT, bindTs, AV.sv, isTD, isT, tag, isTs, isNone, R.lf, lf, lf.lfs, isBo, iL_len, iL_get]
          by_cases h : z ≤ x <;> simp [h]
      simp [e_lit, e_glo, e_loc, e_bin, e_neg, e_not, e_and, e_or, e_cmp, e_cmp2, e_ife, e_tup, e_lst, e_idx, e_sli, e_nop, e_rev, e_bi, e_met, e_call, e_newk, e_newt, e_dhas, e_dget, e_dget2, e_star, e_rg1, e_rg2, e_enm, e_zip, e_sget, e_slen, es_nil, es_cons, toD, toB, toE, toI, toDs, toX, toC, O.f, rd, rds, esc, asB, bl, itR, seqOf, dispR, condR, getR, slR, setS, toS, toSet, toAs, toA, callD, isOut, cmpD, ordD, binD, addD, subD, modD, negD, biD, lenD, intD, absD, max2D, min2D, tupleD, listD, idxD, lcB, TGt.slots, killS, bindT, bindTs, AV.sv, isTD, isT, tag, isTs, isNone, R.lf, lf, lf.lfs, isBo, iL_len, iL_get, h2]
      by_cases h : ((row.filter fun z => decide (z ≤ x)).length : Int) ≤ x <;> simp [h]
  show outF (exs _ [.v (.tuple (iL row)), .un, .un, .un] ss) = _
  unfold B_few_place
  simp only [exs_cons, exs_nil, x_set, x_ret, toSet, toS, setS, h0, Option.bind_some, Option.map_some, List.length_cons, List.length_nil]
  cases e : fewL row with
  | nil =>
    have := eq_lst0 []
    simp [e_lit, e_glo, e_loc, e_bin, e_neg, e_not, e_and, e_or, e_cmp, e_cmp2, e_ife, e_tup, e_lst, e_idx, e_sli, e_nop, e_rev, e_bi, e_met, e_call, e_newk, e_newt, e_dhas, e_dget, e_dget2, e_star, e_rg1, e_rg2, e_enm, e_zip, e_sget, e_slen, es_nil, es_cons, toD, toB, toE, toI, toDs, toX, toC, O.f, rd, rds, esc, asB, bl, itR, seqOf, dispR, condR, getR, slR, setS, toS, toSet, toAs, toA, callD, isOut, cmpD, ordD, binD, addD, subD, modD, negD, biD, lenD, intD, absD, max2D, min2D, tupleD, listD, idxD, lcB, TGt.slots, killS, bindT, bindTs, AV.sv, isTD, isT, tag, isTs, isNone, R.lf, lf, lf.lfs, isBo, iL_len, iL_get, this, outF, retR, headD]
  | cons x r =>
    have := eq_lst0 (x :: r)
    simp [e_lit, e_glo, e_loc, e_bin, e_neg, e_not, e_and, e_or, e_cmp, e_cmp2, e_ife, e_tup, e_lst, e_idx, e_sli, e_nop, e_rev, e_bi, e_met, e_call, e_newk, e_newt, e_dhas, e_dget, e_dget2, e_star, e_rg1, e_rg2, e_enm, e_zip, e_sget, e_slen, es_nil, es_cons, toD, toB, toE, toI, toDs, toX, toC, O.f, rd, rds, esc, asB, bl, itR, seqOf, dispR, condR, getR, slR, setS, toS, toSet, toAs, toA, callD, isOut, cmpD, ordD, binD, addD, subD, modD, negD, biD, lenD, intD, absD, max2D, min2D, tupleD, listD, idxD, lcB, TGt.slots, killS, bindT, bindTs, AV.sv, isTD, isT, tag, isTs, isNone, R.lf, lf, lf.lfs, isBo, iL_len, iL_get, this, outF, retR, headD, L2.ixN]
theorem countP_filter_len (row : List Int) (x : Int) : (row.filter fun z => decide (z ≤ x)).length = row.countP fun z => decide (z ≤ x) := List.countP_eq_length_filter.symm
theorem few_park (row : List Int) : fewL row = [] ↔ IsPark row := by
  unfold fewL rgL
  rw [List.filter_eq_nil_iff]
  constructor
  · intro h x hx
    have := h x (List.mem_map.mpr ⟨x, List.mem_range.mpr hx, rfl⟩)
    simp only [decide_eq_true_eq, countP_filter_len] at this
    omega
  · intro h x hx
    obtain ⟨k, hk, rfl⟩ := List.mem_map.mp hx
    have := h k (List.mem_range.mp hk)
    simp only [decide_eq_true_eq, countP_filter_len]
    omega
/-- rising and no number too great -/
theorem sorted_park : ∀ (s : List Int), s.Pairwise (· ≤ ·) → ((∀ k (h : k < s.length), s[k] ≤ (k : Int)) ↔ IsPark s) := by
  intro s hs
  have pw := List.pairwise_iff_getElem.mp hs
  constructor
  · intro h x hx
    have e : s = s.take (x + 1) ++ s.drop (x + 1) := (List.take_append_drop _ _).symm
    rw [e, List.countP_append]
    have h1 : (s.take (x + 1)).countP (fun z => decide (z ≤ (x : Int))) = (s.take (x + 1)).length := by
      rw [List.countP_eq_length]
      intro z hz
      obtain ⟨k, hk, rfl⟩ := List.getElem_of_mem hz
      rw [List.length_take] at hk
      rw [List.getElem_take]
      have := h k (by omega)
      simp only [decide_eq_true_eq]
      omega
    rw [h1, List.length_take]
    omega
  · intro h k hk
    rcases Int.lt_or_le (k : Int) s[k] with c | c
    · exfalso
      have := h k hk
      have e : s = s.take k ++ s.drop k := (List.take_append_drop _ _).symm
      rw [e, List.countP_append] at this
      have h1 : (s.drop k).countP (fun z => decide (z ≤ (k : Int))) = 0 := by
        rw [List.countP_eq_zero]
        intro z hz
        obtain ⟨j, hj, rfl⟩ := List.getElem_of_mem hz
        rw [List.length_drop] at hj
        rw [List.getElem_drop]
        simp only [decide_eq_true_eq]
        rcases Nat.eq_zero_or_pos j with hz | hz
        · subst hz; simp only [Nat.add_zero]; omega
        · have := pw k (k + j) hk (by omega) (by omega)
          omega
      have h2 := List.countP_le_length (p := fun z => decide (z ≤ (k : Int))) (l := s.take k)
      rw [List.length_take] at h2
      omega
    · exact c
def lawP (row : List Int) : Bool := decide ((sortI row).zipIdx.filter (fun p => decide (p.1 > (p.2 : Int))) = [])
theorem park_perm {a b : List Int} (h : a.Perm b) : IsPark a ↔ IsPark b := by
  unfold IsPark
  constructor
  · intro q x hx
    rw [← h.countP_eq]
    exact q x (by rw [h.length_eq]; exact hx)
  · intro q x hx
    rw [h.countP_eq]
    exact q x (by rw [← h.length_eq]; exact hx)
theorem lawP_park (row : List Int) : lawP row = true ↔ IsPark row := by
  rw [← park_perm (sortI_perm row), ← sorted_park _ (sortI_sorted row)]
  unfold lawP
  rw [decide_eq_true_eq, List.filter_eq_nil_iff]
  constructor
  · intro h k hk
    have := h ((sortI row)[k], k) (by rw [List.mem_zipIdx_iff_getElem?]; exact List.getElem?_eq_getElem hk)
    simp only [decide_eq_true_eq] at this
    omega
  · rintro h ⟨x, k⟩ hp
    rw [List.mem_zipIdx_iff_getElem?] at hp
    obtain ⟨hk, e⟩ := List.getElem?_eq_some_iff.mp hp
    have := h k hk
    have e : (sortI row)[k] = x := e
    simp only [decide_eq_true_eq]
    omega
theorem enum_iL (s : List Int) : enumD (iL s) = s.zipIdx.map fun p => .tuple [.int (p.2 : Nat), .int p.1] := by
  unfold enumD iL
  refine List.ext_getElem (by simp) fun k h1 h2 => ?_
  simp
theorem filterMap_ite {α β : Type} (p : α → Bool) (f : α → β) : ∀ l : List α, (l.filterMap fun x => if p x then some (f x) else none) = (l.filter p).map f
  | [] => rfl
  | x :: l => by
    by_cases h : p x = true
    · rw [List.filterMap_cons_some (b := f x) (by rw [if_pos h]), List.filter_cons_of_pos h, List.map_cons, filterMap_ite p f l]
    · rw [List.filterMap_cons_none (by rw [if_neg h]), List.filter_cons_of_neg h, filterMap_ite p f l]
def kOf : D → Option D
  | .tuple [.int k, .int x] => if decide (x > k) then some (.int k) else none
  | _ => none
theorem kOf_map (s : List Int) : (enumD (iL s)).filterMap kOf = iL ((s.zipIdx.filter (fun p => decide (p.1 > (p.2 : Int)))).map fun p => (p.2 : Int)) := by
  rw [enum_iL, List.filterMap_map]
  have : (kOf ∘ fun p : Int × Nat => PyData.tuple [.int (p.2 : Nat), .int p.1]) = fun p => if decide (p.1 > (p.2 : Int)) then some (.int (p.2 : Int)) else none := by
    funext p; rfl
  rw [this, filterMap_ite (fun p : Int × Nat => decide (p.1 > (p.2 : Int))) (fun p => PyData.int (p.2 : Int))]
  simp [iL]
theorem sort_tup (row : List Int) : sortedD [.tuple (iL row)] = some (.fr (iL (sortI row))) := by
  show (some (iL row)).bind (fun xs => if sortable xs = true then some (R.fr (sortD xs)) else none) = _
  simp only [Option.bind_some]
  have : sortable (iL row) = true := by
    unfold sortable
    rw [show intsL (iL row) = some row from intsL_map row]
    rfl
  rw [if_pos this]
  show some (R.fr (sortD (row.map .int))) = _
  rw [sortD_int]
  rfl
theorem isPark_eq (row : List Int) (ss : SS) (hl : row.length ≤ SL) : F__law_is_park [.v (.tuple (iL row))] ss = some (.v (.bool (lawP row)), ss) := by
  refine (runF_eq (np := 1) (N := 3) (body := B__law_is_park) (args := [.v (.tuple (iL row))]) rfl).trans ?_
  have hs : (sortI row).length = row.length := (sortI_perm row).length_eq
  have h0 : ev (.lc (.loc 1) (.tup [(.one 1), (.one 2)]) (.enm (.bi .sorted [(.loc 0)])) [(.cmp .gt (.loc 2) (.loc 1))]) [.v (.tuple (iL row)), .un, .un] ss = some (.fr ((enumD (iL (sortI row))).filterMap kOf), ss) := by
    refine ev_lc_pure (ds := enumD (iL (sortI row))) ?_ ?_ fun d hd => ?_
    · simp [e_lit, e_glo, e_loc, e_bin, e_neg, e_not, e_and, e_or, e_cmp, e_cmp2, e_ife, e_tup, e_lst, e_idx, e_sli, e_nop, e_rev, e_bi, e_met, e_call, e_newk, e_newt, e_dhas, e_dget, e_dget2, e_star, e_rg1, e_rg2, e_enm, e_zip, e_sget, e_slen, es_nil, es_cons, toD, toB, toE, toI, toDs, toX, toC, O.f, rd, rds, esc, asB, bl, itR, seqOf, dispR, condR, getR, slR, setS, toS, toSet, toAs, toA, callD, isOut, cmpD, ordD, binD, addD, subD, modD, negD, biD, lenD, intD, absD, max2D, min2D, tupleD, listD, idxD, lcB, TGt.slots, killS, bindT, bindTs, AV.sv, isTD, isT, tag, isTs, isNone, R.lf, lf, lf.lfs, isBo, iL_len, iL_get, sort_tup, enD]
    · rw [enum_iL]; simp [hs]; exact hl
    · rw [enum_iL] at hd
      obtain ⟨p, _, rfl⟩ := List.mem_map.mp hd
      simp [e_lit, e_glo, e_loc, e_bin, e_neg, e_not, e_and, e_or, e_cmp, e_cmp2, e_ife, e_tup, e_lst, e_idx, e_sli, e_nop, e_rev, e_bi, e_met, e_call, e_newk, e_newt, e_dhas, e_dget, e_dget2, e_star, e_rg1, e_rg2, e_enm, e_zip, e_sget, e_slen, es_nil, es_cons, toD, toB, toE, toI, toDs, toX, toC, O.f, rd, rds, esc, asB, bl, itR, seqOf, dispR, condR, getR, slR, setS, toS, toSet, toAs, toA, callD, isOut, cmpD, ordD, binD, addD, subD, modD, negD, biD, lenD, intD, absD, max2D, min2D, tupleD, listD, idxD, lcB, TGt.slots, killS, bindT, bindTs, AV.sv, isTD, isT, tag, isTs, isNone, R.lf, lf, lf.lfs, isBo, iL_len, iL_get, TGt.slotss, kOf]
      by_cases h : (p.2 : Int) < p.1 <;> simp [h]
  rw [kOf_map] at h0
  show outF (exs _ [.v (.tuple (iL row)), .un, .un] ss) = _
  unfold B__law_is_park
  have h1 := eq_lst0 (((sortI row).zipIdx.filter (fun p => decide (p.1 > (p.2 : Int)))).map fun p => (p.2 : Int))
  simp [exs_cons, exs_nil, x_ret, h0, e_lit, e_glo, e_loc, e_bin, e_neg, e_not, e_and, e_or, e_cmp, e_cmp2, e_ife, e_tup, e_lst, e_idx, e_sli, e_nop, e_rev, e_bi, e_met, e_call, e_newk, e_newt, e_dhas, e_dget, e_dget2, e_star, e_rg1, e_rg2, e_enm, e_zip, e_sget, e_slen, es_nil, es_cons, toD, toB, toE, toI, toDs, toX, toC, O.f, rd, rds, esc, asB, bl, itR, seqOf, dispR, condR, getR, slR, setS, toS, toSet, toAs, toA, callD, isOut, cmpD, ordD, binD, addD, subD, modD, negD, biD, lenD, intD, absD, max2D, min2D, tupleD, listD, idxD, lcB, TGt.slots, killS, bindT, bindTs, AV.sv, isTD, isT, tag, isTs, isNone, R.lf, lf, lf.lfs, isBo, iL_len, iL_get, h1, outF, retR, lawP]
theorem find_filter {p : Int → Bool} : ∀ {l : List Int} {f : Int}, l.find? p = some f → ∃ r, l.filter p = f :: r
  | [], f, h => by simp at h
  | x :: l, f, h => by
    by_cases hx : p x = true
    · rw [List.find?_cons_of_pos hx] at h
      cases h
      exact ⟨_, List.filter_cons_of_pos hx⟩
    · rw [List.find?_cons_of_neg hx] at h
      obtain ⟨r, e⟩ := find_filter h
      exact ⟨r, by rw [List.filter_cons_of_neg hx, e]⟩
/-- [place for place in .. if place not in taken][0] -/
theorem pick_free {it : CE} {i j : Nat} {sl : List SV} {ss : SS} {l T : List Int} {f : Int} (hit : toI (ev it sl ss) = some (iL l, ss)) (hl : l.length ≤ SL) (hf : l.find? (fun x => !decide (x ∈ T)) = some f)
    (hc : ∀ x : Int, lcB (.loc i) (.one i) [(.cmp .notin (.loc i) (.loc j))] sl (.int x) ss = some (if !decide (x ∈ T) then some (.int x) else none, ss)) :
    ev (.idx (.lc (.loc i) (.one i) it [(.cmp .notin (.loc i) (.loc j))]) (.lit (.int 0))) sl ss = some (.v (.int f), ss) := by
  have h1 := ev_lc_filter (l := l) (p := fun x => !decide (x ∈ T)) hit hl fun x _ => hc x
  obtain ⟨r, e⟩ := find_filter hf
  rw [e] at h1
  simp [e_lit, e_glo, e_loc, e_bin, e_neg, e_not, e_and, e_or, e_cmp, e_cmp2, e_ife, e_tup, e_lst, e_idx, e_sli, e_nop, e_rev, e_bi, e_met, e_call, e_newk, e_newt, e_dhas, e_dget, e_dget2, e_star, e_rg1, e_rg2, e_enm, e_zip, e_sget, e_slen, es_nil, es_cons, toD, toB, toE, toI, toDs, toX, toC, O.f, rd, rds, esc, asB, bl, itR, seqOf, dispR, condR, getR, slR, setS, toS, toSet, toAs, toA, callD, isOut, cmpD, ordD, binD, addD, subD, modD, negD, biD, lenD, intD, absD, max2D, min2D, tupleD, listD, idxD, lcB, TGt.slots, killS, bindT, bindTs, AV.sv, isTD, isT, tag, isTs, isNone, R.lf, lf, lf.lfs, isBo, iL_len, iL_get, h1, L2.ixN]
theorem lfew_eq (row : List Int) (ss : SS) (hl : row.length ≤ SL) : F__law_few [.v (.tuple (iL row))] ss = some (.v (headD (fewL row)), ss) := by
  refine (runF_eq (np := 1) (N := 4) (body := B__law_few) (args := [.v (.tuple (iL row))]) rfl).trans ?_
  have h0 : ev (.lc (.loc 2) (.one 2) (.rg1 (.bi .len [(.loc 0)])) [(.cmp .le (.bi .len [(.lc (.lit (.int 1)) (.one 3) (.loc 0) [(.cmp .le (.loc 3) (.loc 2))])]) (.loc 2))]) [.v (.tuple (iL row)), .un, .un, .un] ss = some (.fr (iL (fewL row)), ss) := by
    refine ev_lc_filter (l := rgL row.length) (rg1_ok (n := row.length) ?_ hl) (by rw [rgL_len]; exact hl) fun x _ => ?_
    · simp [e_lit, e_glo, e_loc, e_bin, e_neg, e_not, e_and, e_or, e_cmp, e_cmp2, e_ife, e_tup, e_lst, e_idx, e_sli, e_nop, e_rev, e_bi, e_met, e_call, e_newk, e_newt, e_dhas, e_dget, e_dget2, e_star, e_rg1, e_rg2, e_enm, e_zip, e_sget, e_slen, es_nil, es_cons, toD, toB, toE, toI, toDs, toX, toC, O.f, rd, rds, esc, asB, bl, itR, seqOf, dispR, condR, getR, slR, setS, toS, toSet, toAs, toA, callD, isOut, cmpD, ordD, binD, addD, subD, modD, negD, biD, lenD, intD, absD, max2D, min2D, tupleD, listD, idxD, lcB, TGt.slots, killS, bindT, bindTs, AV.sv, isTD, isT, tag, isTs, isNone, R.lf, lf, lf.lfs, isBo, iL_len, iL_get]
    · have h2 : ev (.lc (.lit (.int 1)) (.one 3) (.loc 0) [(.cmp .le (.loc 3) (.loc 2))]) [.v (.tuple (iL row)), .un, .v (.int x), .un] ss = some (.fr (iL (row.filterMap fun z => if decide (z ≤ x) then some 1 else none)), ss) := by
        refine ev_lc_ints (l := row) ?_ hl fun z _ => ?_
        · simp [e_lit, e_glo, e_loc, e_bin, e_neg, e_not, e_and, e_or, e_cmp, e_cmp2, e_ife, e_tup, e_lst, e_idx, e_sli, e_nop, e_rev, e_bi, e_met, e_call, e_newk, e_newt, e_dhas, e_dget, e_dget2, e_star, e_rg1, e_rg2, e_enm, e_zip, e_sget, e_slen, es_nil, es_cons, toD, toB, toE, toI, toDs, toX, toC, O.f, rd, rds, esc, asB, bl, itR, seqOf, dispR, condR, getR, slR, setS, toS, toSet, toAs, toA, callD, isOut, cmpD, ordD, binD, addD, subD, modD, negD, biD, lenD, intD, absD, max2D, min2D, tupleD, listD, idxD, lcB, TGt.slots, killS, bindT, bindTs, AV.sv, isTD, isT, tag, isTs, isNone, R.lf, lf, lf.lfs, isBo, iL_len, iL_get]
        · simp [e_lit, e_glo, e_loc, e_bin, e_neg, e_not, e_and, e_or, e_cmp, e_cmp2, e_ife, e_tup, e_lst, e_idx, e_sli, e_nop, e_rev, e_bi, e_met, e_call, e_newk, e_newt, e_dhas, e_dget, e_dget2, e_star, e_rg1, e_rg2, e_enm, e_zip, e_sget, e_slen, es_nil, es_cons, toD, toB, toE, toI, toDs, toX, toC, O.f, rd, rds, esc, asB, bl, itR, seqOf, dispR, condR, getR, slR, setS, toS, toSet, toAs, toA, callD, isOut, cmpD, ordD, binD, addD, subD, modD, negD, biD, lenD, intD, absD, max2D, min2D, tupleD, listD, idxD, lcB, TGt.slots, killS, bindT, bindTs, AV.sv, isTD, isT, tag, isTs, isNone, R.lf, lf, lf.lfs, isBo, iL_len, iL_get]
          by_cases h : z ≤ x <;> simp [h]
      rw [filterMap_ite (fun z => decide (z ≤ x)) (fun _ => (1 : Int))] at h2
      simp [e_lit, e_glo, e_loc, e_bin, e_neg, e_not, e_and, e_or, e_cmp, e_cmp2, e_ife, e_tup, e_lst, e_idx, e_sli, e_nop, e_rev, e_bi, e_met, e_call, e_newk, e_newt, e_dhas, e_dget, e_dget2, e_star, e_rg1, e_rg2, e_enm, e_zip, e_sget, e_slen, es_nil, es_cons, toD, toB, toE, toI, toDs, toX, toC, O.f, rd, rds, esc, asB, bl, itR, seqOf, dispR, condR, getR, slR, setS, toS, toSet, toAs, toA, callD, isOut, cmpD, ordD, binD, addD, subD, modD, negD, biD, lenD, intD, absD, max2D, min2D, tupleD, listD, idxD, lcB, TGt.slots, killS, bindT, bindTs, AV.sv, isTD, isT, tag, isTs, isNone, R.lf, lf, lf.lfs, isBo, iL_len, iL_get, h2]
      by_cases h : ((row.filter fun z => decide (z ≤ x)).length : Int) ≤ x <;> simp [h]
  show outF (exs _ [.v (.tuple (iL row)), .un, .un, .un] ss) = _
  unfold B__law_few
  simp only [exs_cons, exs_nil, x_set, x_ret, toSet, toS, setS, h0, Option.bind_some, Option.map_some, List.length_cons, List.length_nil]
  cases e : fewL row with
  | nil =>
    have := eq_lst0 []
    simp [e_lit, e_glo, e_loc, e_bin, e_neg, e_not, e_and, e_or, e_cmp, e_cmp2, e_ife, e_tup, e_lst, e_idx, e_sli, e_nop, e_rev, e_bi, e_met, e_call, e_newk, e_newt, e_dhas, e_dget, e_dget2, e_star, e_rg1, e_rg2, e_enm, e_zip, e_sget, e_slen, es_nil, es_cons, toD, toB, toE, toI, toDs, toX, toC, O.f, rd, rds, esc, asB, bl, itR, seqOf, dispR, condR, getR, slR, setS, toS, toSet, toAs, toA, callD, isOut, cmpD, ordD, binD, addD, subD, modD, negD, biD, lenD, intD, absD, max2D, min2D, tupleD, listD, idxD, lcB, TGt.slots, killS, bindT, bindTs, AV.sv, isTD, isT, tag, isTs, isNone, R.lf, lf, lf.lfs, isBo, iL_len, iL_get, this, outF, retR, headD]
  | cons x r =>
    have := eq_lst0 (x :: r)
    simp [e_lit, e_glo, e_loc, e_bin, e_neg, e_not, e_and, e_or, e_cmp, e_cmp2, e_ife, e_tup, e_lst, e_idx, e_sli, e_nop, e_rev, e_bi, e_met, e_call, e_newk, e_newt, e_dhas, e_dget, e_dget2, e_star, e_rg1, e_rg2, e_enm, e_zip, e_sget, e_slen, es_nil, es_cons, toD, toB, toE, toI, toDs, toX, toC, O.f, rd, rds, esc, asB, bl, itR, seqOf, dispR, condR, getR, slR, setS, toS, toSet, toAs, toA, callD, isOut, cmpD, ordD, binD, addD, subD, modD, negD, biD, lenD, intD, absD, max2D, min2D, tupleD, listD, idxD, lcB, TGt.slots, killS, bindT, bindTs, AV.sv, isTD, isT, tag, isTs, isNone, R.lf, lf, lf.lfs, isBo, iL_len, iL_get, this, outF, retR, headD, L2.ixN]
/-! ### what is an int, what is a number -/
def isI : D → Bool
  | .int _ => true
  | _ => false
def nn : D → Bool
  | .int i => decide (0 ≤ i)
  | _ => false
theorem whole_eq (d : D) (ss : SS) : F_is_whole [.v d] ss = some (.v (.bool (isI d)), ss) := by
  refine (runF_eq (np := 1) (N := 1) (body := B_is_whole) (args := [.v d]) rfl).trans ?_
  cases d <;> simp [B_is_whole, exs_cons, exs_nil, x_ret, e_lit, e_glo, e_loc, e_bin, e_neg, e_not, e_and, e_or, e_cmp, e_cmp2, e_ife, e_tup, e_lst, e_idx, e_sli, e_nop, e_rev, e_bi, e_met, e_call, e_newk, e_newt, e_dhas, e_dget, e_dget2, e_star, e_rg1, e_rg2, e_enm, e_zip, e_sget, e_slen, es_nil, es_cons, toD, toB, toE, toI, toDs, toX, toC, O.f, rd, rds, esc, asB, bl, itR, seqOf, dispR, condR, getR, slR, setS, toS, toSet, toAs, toA, callD, isOut, cmpD, ordD, binD, addD, subD, modD, negD, biD, lenD, intD, absD, max2D, min2D, tupleD, listD, idxD, lcB, TGt.slots, killS, bindT, bindTs, AV.sv, isTD, isT, tag, isTs, isNone, R.lf, lf, lf.lfs, isBo, iL_len, iL_get, retR, outF, isI]
theorem lint_eq (d : D) (ss : SS) : F__law_is_int [.v d] ss = some (.v (.bool (isI d)), ss) := by
  refine (runF_eq (np := 1) (N := 1) (body := B__law_is_int) (args := [.v d]) rfl).trans ?_
  cases d <;> simp [B__law_is_int, exs_cons, exs_nil, x_ret, e_lit, e_glo, e_loc, e_bin, e_neg, e_not, e_and, e_or, e_cmp, e_cmp2, e_ife, e_tup, e_lst, e_idx, e_sli, e_nop, e_rev, e_bi, e_met, e_call, e_newk, e_newt, e_dhas, e_dget, e_dget2, e_star, e_rg1, e_rg2, e_enm, e_zip, e_sget, e_slen, es_nil, es_cons, toD, toB, toE, toI, toDs, toX, toC, O.f, rd, rds, esc, asB, bl, itR, seqOf, dispR, condR, getR, slR, setS, toS, toSet, toAs, toA, callD, isOut, cmpD, ordD, binD, addD, subD, modD, negD, biD, lenD, intD, absD, max2D, min2D, tupleD, listD, idxD, lcB, TGt.slots, killS, bindT, bindTs, AV.sv, isTD, isT, tag, isTs, isNone, R.lf, lf, lf.lfs, isBo, iL_len, iL_get, retR, outF, isI]
def numsB : D → Bool
  | .tuple ds => ds.all nn
  | _ => false
theorem bools_map (p : D → Bool) : ∀ ds : List D, boolsL (ds.map fun d => .bool (p d)) = some (ds.map p)
  | [] => rfl
  | d :: ds => by simp only [List.map_cons, boolsL, bools_map p ds]; rfl
theorem numbers_eq (d : D) (ss : SS) (hl : ∀ ds, d = .tuple ds → ds.length ≤ SL) : F_are_numbers [.v d] ss = some (.v (.bool (numsB d)), ss) := by
  refine (runF_eq (np := 1) (N := 2) (body := B_are_numbers) (args := [.v d]) rfl).trans ?_
  show outF (exs B_are_numbers [.v d, .un] ss) = _
  cases d with
  | tuple ds =>
    have h0 := ev_lc_pure (elt := .and (.call "is_whole" F_is_whole [(.loc 1)]) (.cmp .ge (.loc 1) (.lit (.int 0)))) (tg := .one 1) (it := .loc 0) (cond := []) (sl := [.v (.tuple ds), .un]) (ss := ss) (ds := ds) (g := fun d => some (.bool (nn d))) (by simp [e_lit, e_glo, e_loc, e_bin, e_neg, e_not, e_and, e_or, e_cmp, e_cmp2, e_ife, e_tup, e_lst, e_idx, e_sli, e_nop, e_rev, e_bi, e_met, e_call, e_newk, e_newt, e_dhas, e_dget, e_dget2, e_star, e_rg1, e_rg2, e_enm, e_zip, e_sget, e_slen, es_nil, es_cons, toD, toB, toE, toI, toDs, toX, toC, O.f, rd, rds, esc, asB, bl, itR, seqOf, dispR, condR, getR, slR, setS, toS, toSet, toAs, toA, callD, isOut, cmpD, ordD, binD, addD, subD, modD, negD, biD, lenD, intD, absD, max2D, min2D, tupleD, listD, idxD, lcB, TGt.slots, killS, bindT, bindTs, AV.sv, isTD, isT, tag, isTs, isNone, R.lf, lf, lf.lfs, isBo, iL_len, iL_get]) (hl ds rfl) fun d hd => by
      cases d <;> simp [e_lit, e_glo, e_loc, e_bin, e_neg, e_not, e_and, e_or, e_cmp, e_cmp2, e_ife, e_tup, e_lst, e_idx, e_sli, e_nop, e_rev, e_bi, e_met, e_call, e_newk, e_newt, e_dhas, e_dget, e_dget2, e_star, e_rg1, e_rg2, e_enm, e_zip, e_sget, e_slen, es_nil, es_cons, toD, toB, toE, toI, toDs, toX, toC, O.f, rd, rds, esc, asB, bl, itR, seqOf, dispR, condR, getR, slR, setS, toS, toSet, toAs, toA, callD, isOut, cmpD, ordD, binD, addD, subD, modD, negD, biD, lenD, intD, absD, max2D, min2D, tupleD, listD, idxD, lcB, TGt.slots, killS, bindT, bindTs, AV.sv, isTD, isT, tag, isTs, isNone, R.lf, lf, lf.lfs, isBo, iL_len, iL_get, whole_eq, isI, nn]
    rw [List.filterMap_eq_map'] at h0
    have h1 := bools_map nn ds
    have h2 : (ds.map nn).all id = ds.all nn := by rw [List.all_map]; rfl
    unfold B_are_numbers
    simp [exs_cons, exs_nil, x_ret, e_lit, e_glo, e_loc, e_bin, e_neg, e_not, e_and, e_or, e_cmp, e_cmp2, e_ife, e_tup, e_lst, e_idx, e_sli, e_nop, e_rev, e_bi, e_met, e_call, e_newk, e_newt, e_dhas, e_dget, e_dget2, e_star, e_rg1, e_rg2, e_enm, e_zip, e_sget, e_slen, es_nil, es_cons, toD, toB, toE, toI, toDs, toX, toC, O.f, rd, rds, esc, asB, bl, itR, seqOf, dispR, condR, getR, slR, setS, toS, toSet, toAs, toA, callD, isOut, cmpD, ordD, binD, addD, subD, modD, negD, biD, lenD, intD, absD, max2D, min2D, tupleD, listD, idxD, lcB, TGt.slots, killS, bindT, bindTs, AV.sv, isTD, isT, tag, isTs, isNone, R.lf, lf, lf.lfs, isBo, iL_len, iL_get, h0, allD, h1, h2, retR, outF, numsB]
  | _ => simp [B_are_numbers, exs_cons, exs_nil, x_ret, e_lit, e_glo, e_loc, e_bin, e_neg, e_not, e_and, e_or, e_cmp, e_cmp2, e_ife, e_tup, e_lst, e_idx, e_sli, e_nop, e_rev, e_bi, e_met, e_call, e_newk, e_newt, e_dhas, e_dget, e_dget2, e_star, e_rg1, e_rg2, e_enm, e_zip, e_sget, e_slen, es_nil, es_cons, toD, toB, toE, toI, toDs, toX, toC, O.f, rd, rds, esc, asB, bl, itR, seqOf, dispR, condR, getR, slR, setS, toS, toSet, toAs, toA, callD, isOut, cmpD, ordD, binD, addD, subD, modD, negD, biD, lenD, intD, absD, max2D, min2D, tupleD, listD, idxD, lcB, TGt.slots, killS, bindT, bindTs, AV.sv, isTD, isT, tag, isTs, isNone, R.lf, lf, lf.lfs, isBo, iL_len, iL_get, retR, outF, numsB]
theorem nn_ints : ∀ {ds : List D}, ds.all nn = true → ∃ l, ds = iL l ∧ ∀ i ∈ l, 0 ≤ i
  | [], _ => ⟨[], rfl, fun i hi => by cases hi⟩
  | d :: ds, h => by
    rw [List.all_cons, Bool.and_eq_true] at h
    obtain ⟨l, rfl, h2⟩ := nn_ints h.2
    cases d with
    | int i =>
      refine ⟨i :: l, rfl, fun j hj => ?_⟩
      rcases List.mem_cons.mp hj with rfl | hj
      · simpa [nn] using h.1
      · exact h2 j hj
    | _ => simp [nn] at h
theorem ints_nn {l : List Int} (h : ∀ i ∈ l, 0 ≤ i) : (iL l).all nn = true := by
  rw [List.all_eq_true]
  intro d hd
  obtain ⟨i, hi, rfl⟩ := List.mem_map.mp hd
  simp [nn, h i hi]
/-- a tuple of numbers that is a parking -/
def anyB : D → Bool
  | .tuple ds => ds.all nn && (match intsL ds with
    | some l => decide (fewL l = [])
    | none => false)
  | _ => false
theorem parking_eq (d : D) (ss : SS) (hl : ∀ ds, d = .tuple ds → ds.length ≤ SL) : F_is_parking [.v d] ss = some (.v (.bool (anyB d)), ss) := by
  refine (runF_eq (np := 1) (N := 1) (body := B_is_parking) (args := [.v d]) rfl).trans ?_
  have h1 := numbers_eq d ss hl
  show outF (exs B_is_parking [.v d] ss) = _
  unfold B_is_parking
  cases q : numsB d with
  | false =>
    rw [q] at h1
    have : anyB d = false := by
      cases d with
      | tuple ds => simp only [numsB] at q; simp [anyB, q]
      | _ => rfl
    rw [this]
    simp [exs_cons, exs_nil, x_ret, e_lit, e_glo, e_loc, e_bin, e_neg, e_not, e_and, e_or, e_cmp, e_cmp2, e_ife, e_tup, e_lst, e_idx, e_sli, e_nop, e_rev, e_bi, e_met, e_call, e_newk, e_newt, e_dhas, e_dget, e_dget2, e_star, e_rg1, e_rg2, e_enm, e_zip, e_sget, e_slen, es_nil, es_cons, toD, toB, toE, toI, toDs, toX, toC, O.f, rd, rds, esc, asB, bl, itR, seqOf, dispR, condR, getR, slR, setS, toS, toSet, toAs, toA, callD, isOut, cmpD, ordD, binD, addD, subD, modD, negD, biD, lenD, intD, absD, max2D, min2D, tupleD, listD, idxD, lcB, TGt.slots, killS, bindT, bindTs, AV.sv, isTD, isT, tag, isTs, isNone, R.lf, lf, lf.lfs, isBo, iL_len, iL_get, h1, retR, outF]
  | true =>
    rw [q] at h1
    cases d with
    | tuple ds =>
      obtain ⟨l, rfl, _⟩ := nn_ints q
      have h2 := few_eq l ss (by have := hl _ rfl; rwa [iL_len] at this)
      have h3 : anyB (.tuple (iL l)) = decide (fewL l = []) := by
        have q' : (iL l).all nn = true := q
        have e : intsL (iL l) = some l := intsL_map l
        simp [anyB, q', e]
      rw [h3]
      cases e : fewL l with
      | nil => rw [e] at h2; simp [exs_cons, exs_nil, x_ret, e_lit, e_glo, e_loc, e_bin, e_neg, e_not, e_and, e_or, e_cmp, e_cmp2, e_ife, e_tup, e_lst, e_idx, e_sli, e_nop, e_rev, e_bi, e_met, e_call, e_newk, e_newt, e_dhas, e_dget, e_dget2, e_star, e_rg1, e_rg2, e_enm, e_zip, e_sget, e_slen, es_nil, es_cons, toD, toB, toE, toI, toDs, toX, toC, O.f, rd, rds, esc, asB, bl, itR, seqOf, dispR, condR, getR, slR, setS, toS, toSet, toAs, toA, callD, isOut, cmpD, ordD, binD, addD, subD, modD, negD, biD, lenD, intD, absD, max2D, min2D, tupleD, listD, idxD, lcB, TGt.slots, killS, bindT, bindTs, AV.sv, isTD, isT, tag, isTs, isNone, R.lf, lf, lf.lfs, isBo, iL_len, iL_get, h1, h2, headD, retR, outF]
      | cons x r => rw [e] at h2; simp [exs_cons, exs_nil, x_ret, e_lit, e_glo, e_loc, e_bin, e_neg, e_not, e_and, e_or, e_cmp, e_cmp2, e_ife, e_tup, e_lst, e_idx, e_sli, e_nop, e_rev, e_bi, e_met, e_call, e_newk, e_newt, e_dhas, e_dget, e_dget2, e_star, e_rg1, e_rg2, e_enm, e_zip, e_sget, e_slen, es_nil, es_cons, toD, toB, toE, toI, toDs, toX, toC, O.f, rd, rds, esc, asB, bl, itR, seqOf, dispR, condR, getR, slR, setS, toS, toSet, toAs, toA, callD, isOut, cmpD, ordD, binD, addD, subD, modD, negD, biD, lenD, intD, absD, max2D, min2D, tupleD, listD, idxD, lcB, TGt.slots, killS, bindT, bindTs, AV.sv, isTD, isT, tag, isTs, isNone, R.lf, lf, lf.lfs, isBo, iL_len, iL_get, h1, h2, headD, retR, outF]
    | _ => simp [numsB] at q
/-- small enough to be compared -/
def okB (d : D) : Bool := d.canLay0 && decide (d.depth ≤ 60)
theorem canLay_all : ∀ {xs : List D}, (∀ d ∈ xs, okB d = true) → PyData.canLayAll0 xs = true ∧ PyData.depthAll xs ≤ 60
  | [], _ => by simp [PyData.canLayAll0, PyData.depthAll]
  | d :: xs, h => by
    have h1 := h d List.mem_cons_self
    unfold okB at h1
    rw [Bool.and_eq_true, decide_eq_true_eq] at h1
    obtain ⟨h2, h3⟩ := canLay_all fun x hx => h x (List.mem_cons_of_mem _ hx)
    simp only [PyData.canLayAll0, PyData.depthAll, h1.1, h2, Bool.and_self, true_and]
    omega
theorem shaped_of {xs : List D} (h : ∀ d ∈ xs, okB d = true) : SeqAt.shaped (.list xs) = true := by
  obtain ⟨h1, h2⟩ := canLay_all h
  unfold SeqAt.shaped
  rw [PyData.canLay0, PyData.depth, h1, Bool.true_and, decide_eq_true_eq]
  omega
theorem eq_nil {xs : List D} (h : ∀ d ∈ xs, okB d = true) : eqD (.list xs) (.list []) = some (decide (xs = [])) := by
  unfold eqD
  simp only
  rw [if_pos ⟨shaped_of h, rfl⟩]
  cases xs <;> simp [PyData.eqv, PyData.eqvAll]
theorem any_eq (d : D) (ss : SS) (hl : ∀ ds, d = .tuple ds → ds.length ≤ SL ∧ ∀ x ∈ ds, okB x = true) : F__law_is_any [.v d] ss = some (.v (.bool (anyB d)), ss) := by
  refine (runF_eq (np := 1) (N := 2) (body := B__law_is_any) (args := [.v d]) rfl).trans ?_
  show outF (exs B__law_is_any [.v d, .un] ss) = _
  cases d with
  | tuple ds =>
    obtain ⟨h1, h2⟩ := hl ds rfl
    have h0 := ev_lc_pure (elt := .loc 1) (tg := .one 1) (it := .loc 0) (cond := [(.or (.not (.call "_law_is_int" F__law_is_int [(.loc 1)])) (.cmp .lt (.loc 1) (.lit (.int 0))))]) (sl := [.v (.tuple ds), .un]) (ss := ss) (ds := ds) (g := fun d => if !nn d then some d else none) (by simp [e_lit, e_glo, e_loc, e_bin, e_neg, e_not, e_and, e_or, e_cmp, e_cmp2, e_ife, e_tup, e_lst, e_idx, e_sli, e_nop, e_rev, e_bi, e_met, e_call, e_newk, e_newt, e_dhas, e_dget, e_dget2, e_star, e_rg1, e_rg2, e_enm, e_zip, e_sget, e_slen, es_nil, es_cons, toD, toB, toE, toI, toDs, toX, toC, O.f, rd, rds, esc, asB, bl, itR, seqOf, dispR, condR, getR, slR, setS, toS, toSet, toAs, toA, callD, isOut, cmpD, ordD, binD, addD, subD, modD, negD, biD, lenD, intD, absD, max2D, min2D, tupleD, listD, idxD, lcB, TGt.slots, killS, bindT, bindTs, AV.sv, isTD, isT, tag, isTs, isNone, R.lf, lf, lf.lfs, isBo, iL_len, iL_get]) h1 fun d hd => by
      cases d with
      | int i => by_cases q : 0 ≤ i <;> simp [e_lit, e_glo, e_loc, e_bin, e_neg, e_not, e_and, e_or, e_cmp, e_cmp2, e_ife, e_tup, e_lst, e_idx, e_sli, e_nop, e_rev, e_bi, e_met, e_call, e_newk, e_newt, e_dhas, e_dget, e_dget2, e_star, e_rg1, e_rg2, e_enm, e_zip, e_sget, e_slen, es_nil, es_cons, toD, toB, toE, toI, toDs, toX, toC, O.f, rd, rds, esc, asB, bl, itR, seqOf, dispR, condR, getR, slR, setS, toS, toSet, toAs, toA, callD, isOut, cmpD, ordD, binD, addD, subD, modD, negD, biD, lenD, intD, absD, max2D, min2D, tupleD, listD, idxD, lcB, TGt.slots, killS, bindT, bindTs, AV.sv, isTD, isT, tag, isTs, isNone, R.lf, lf, lf.lfs, isBo, iL_len, iL_get, lint_eq, isI, nn, q] <;> omega
      | _ => simp [e_lit, e_glo, e_loc, e_bin, e_neg, e_not, e_and, e_or, e_cmp, e_cmp2, e_ife, e_tup, e_lst, e_idx, e_sli, e_nop, e_rev, e_bi, e_met, e_call, e_newk, e_newt, e_dhas, e_dget, e_dget2, e_star, e_rg1, e_rg2, e_enm, e_zip, e_sget, e_slen, es_nil, es_cons, toD, toB, toE, toI, toDs, toX, toC, O.f, rd, rds, esc, asB, bl, itR, seqOf, dispR, condR, getR, slR, setS, toS, toSet, toAs, toA, callD, isOut, cmpD, ordD, binD, addD, subD, modD, negD, biD, lenD, intD, absD, max2D, min2D, tupleD, listD, idxD, lcB, TGt.slots, killS, bindT, bindTs, AV.sv, isTD, isT, tag, isTs, isNone, R.lf, lf, lf.lfs, isBo, iL_len, iL_get, lint_eq, isI, nn]
    have h3 : (ds.filterMap fun d => if !nn d then some d else none) = ds.filter fun d => !nn d := by
      rw [← List.filterMap_eq_filter]; rfl
    rw [h3] at h0
    have h4 := eq_nil (xs := ds.filter fun d => !nn d) fun x hx => h2 x (List.mem_filter.mp hx).1
    cases q : ds.all nn with
    | false =>
      have h5 : decide ((ds.filter fun d => !nn d) = []) = false := by
        rw [decide_eq_false_iff_not, List.filter_eq_nil_iff]
        intro h
        rw [← Bool.not_eq_true] at q
        exact q (List.all_eq_true.mpr fun x hx => by have := h x hx; simpa using this)
      rw [h5] at h4
      have : anyB (.tuple ds) = false := by simp [anyB, q]
      rw [this]
      unfold B__law_is_any
      simp [exs_cons, exs_nil, x_ret, x_ite, e_lit, e_glo, e_loc, e_bin, e_neg, e_not, e_and, e_or, e_cmp, e_cmp2, e_ife, e_tup, e_lst, e_idx, e_sli, e_nop, e_rev, e_bi, e_met, e_call, e_newk, e_newt, e_dhas, e_dget, e_dget2, e_star, e_rg1, e_rg2, e_enm, e_zip, e_sget, e_slen, es_nil, es_cons, toD, toB, toE, toI, toDs, toX, toC, O.f, rd, rds, esc, asB, bl, itR, seqOf, dispR, condR, getR, slR, setS, toS, toSet, toAs, toA, callD, isOut, cmpD, ordD, binD, addD, subD, modD, negD, biD, lenD, intD, absD, max2D, min2D, tupleD, listD, idxD, lcB, TGt.slots, killS, bindT, bindTs, AV.sv, isTD, isT, tag, isTs, isNone, R.lf, lf, lf.lfs, isBo, iL_len, iL_get, h0, h4, retR, outF]
    | true =>
      have h5 : decide ((ds.filter fun d => !nn d) = []) = true := by
        rw [decide_eq_true_eq, List.filter_eq_nil_iff]
        intro x hx
        simp [List.all_eq_true.mp q x hx]
      rw [h5] at h4
      obtain ⟨l, rfl, h6⟩ := nn_ints q
      have h7 := isPark_eq l ss (by rwa [iL_len] at h1)
      have h8 : anyB (.tuple (iL l)) = lawP l := by
        have e : intsL (iL l) = some l := intsL_map l
        simp only [anyB, q, e, Bool.true_and]
        rw [Bool.eq_iff_iff, decide_eq_true_eq, few_park, lawP_park]
      rw [h8]
      unfold B__law_is_any
      simp [exs_cons, exs_nil, x_ret, x_ite, e_lit, e_glo, e_loc, e_bin, e_neg, e_not, e_and, e_or, e_cmp, e_cmp2, e_ife, e_tup, e_lst, e_idx, e_sli, e_nop, e_rev, e_bi, e_met, e_call, e_newk, e_newt, e_dhas, e_dget, e_dget2, e_star, e_rg1, e_rg2, e_enm, e_zip, e_sget, e_slen, es_nil, es_cons, toD, toB, toE, toI, toDs, toX, toC, O.f, rd, rds, esc, asB, bl, itR, seqOf, dispR, condR, getR, slR, setS, toS, toSet, toAs, toA, callD, isOut, cmpD, ordD, binD, addD, subD, modD, negD, biD, lenD, intD, absD, max2D, min2D, tupleD, listD, idxD, lcB, TGt.slots, killS, bindT, bindTs, AV.sv, isTD, isT, tag, isTs, isNone, R.lf, lf, lf.lfs, isBo, iL_len, iL_get, h0, h4, h7, retR, outF]
  | _ => simp [B__law_is_any, exs_cons, exs_nil, x_ret, x_ite, e_lit, e_glo, e_loc, e_bin, e_neg, e_not, e_and, e_or, e_cmp, e_cmp2, e_ife, e_tup, e_lst, e_idx, e_sli, e_nop, e_rev, e_bi, e_met, e_call, e_newk, e_newt, e_dhas, e_dget, e_dget2, e_star, e_rg1, e_rg2, e_enm, e_zip, e_sget, e_slen, es_nil, es_cons, toD, toB, toE, toI, toDs, toX, toC, O.f, rd, rds, esc, asB, bl, itR, seqOf, dispR, condR, getR, slR, setS, toS, toSet, toAs, toA, callD, isOut, cmpD, ordD, binD, addD, subD, modD, negD, biD, lenD, intD, absD, max2D, min2D, tupleD, listD, idxD, lcB, TGt.slots, killS, bindT, bindTs, AV.sv, isTD, isT, tag, isTs, isNone, R.lf, lf, lf.lfs, isBo, iL_len, iL_get, retR, outF, anyB]
end K_roundswaps_k15_parkings_judged
namespace K_roundswaps_k15_parkings_judged
open PySem Pm Park
theorem forD_scan {f : D → List SV → SS → Option Out} {I : List SV → Prop} {p : D → Bool} {r : D → R} {ss : SS} : ∀ (ds : List D) (sl : List SV), I sl → (∀ d ∈ ds, ∀ sl, I sl → (p d = true → ∃ sl', f d sl ss = some (.nx sl' ss) ∧ I sl') ∧ (p d = false → f d sl ss = some (.rt (r d) ss))) →
    match ds.find? (fun d => !p d) with
    | none => ∃ sl', forD f ds sl ss = some (.nx sl' ss) ∧ I sl'
    | some d => forD f ds sl ss = some (.rt (r d) ss)
  | [], sl, h, _ => ⟨sl, rfl, h⟩
  | d :: ds, sl, h, st => by
    obtain ⟨s1, s2⟩ := st d List.mem_cons_self sl h
    cases q : p d with
    | true =>
      obtain ⟨sl', e, h'⟩ := s1 q
      have ih := forD_scan ds sl' h' fun x hx => st x (List.mem_cons_of_mem _ hx)
      rw [List.find?_cons_of_neg (by simp [q])]
      have e2 : forD f (d :: ds) sl ss = forD f ds sl' ss := by
        show (match f d sl ss with
          | some (.nx sl ss) => forD f ds sl ss
          | r => r) = _
        rw [e]
      rw [e2]
      exact ih
    | false =>
      rw [List.find?_cons_of_pos (by simp [q])]
      show (match f d sl ss with
        | some (.nx sl ss) => forD f ds sl ss
        | r => r) = _
      rw [s2 q]
theorem r2g {a b : CE} {sl : List SV} {ss s1 s2 : SS} {x y : D} {r : R} (h1 : toD (ev a sl ss) = some (x, s1)) (h2 : toD (ev b sl s1) = some (y, s2)) (h3 : rg2D x y = some r) : ev (.rg2 a b) sl ss = some (r, s2) := by
  rw [e_rg2, h1]
  simp only [Option.bind_some, h2, h3, Option.map_some]
theorem rg2_gen {i n : Int} (h1 : -1000 ≤ i ∧ i < 1000) (h2 : -1000 ≤ n ∧ n < 1000) : rg2D (.int i) (.int n) = some (.it (iL (ladder (n - i).toNat i))) := by
  have e : rangeD i n = iL (ladder (n - i).toNat i) := by
    unfold rangeD iL ladder
    rw [List.map_map]
    rfl
  unfold rg2D
  simp only
  rw [if_pos ⟨⟨by omega, by omega, by omega, by omega⟩, by omega⟩, e]
theorem ladder_len (n : Nat) (a : Int) : (ladder n a).length = n := by simp [ladder]
theorem ladder_mem {n : Nat} {a x : Int} : x ∈ ladder n a ↔ a ≤ x ∧ x < a + n := by
  unfold ladder
  rw [List.mem_map]
  constructor
  · rintro ⟨k, hk, rfl⟩
    have := List.mem_range.mp hk
    omega
  · intro h
    exact ⟨(x - a).toNat, List.mem_range.mpr (by omega), by omega⟩
theorem ladder_find {n : Nat} {a f : Int} {T : List Int} (h : Lin T a f) (hf : f < a + n) : (ladder n a).find? (fun x => !decide (x ∈ T)) = some f := by
  obtain ⟨h1, h2, h3⟩ := h
  rw [List.find?_eq_some_iff_getElem]
  have e1 : a + (((f - a).toNat : Nat) : Int) = f := by omega
  refine ⟨by simpa using h2, (f - a).toNat, by rw [ladder_len]; omega, ?_, fun j hj => ?_⟩
  · simp only [ladder, List.getElem_map, List.getElem_range]; exact e1
  · have : a + (j : Int) ∈ T := h3 (a + j) (by omega) (by omega)
    simp [ladder, this]
theorem in_tup (x : Int) (l : List Int) : inD (.int x) (.tuple (iL l)) = some (decide (x ∈ l)) := by
  have hf : (iL l).all flatD = true := by
    rw [List.all_eq_true]
    intro d hd
    obtain ⟨i, _, rfl⟩ := List.mem_map.mp hd
    rfl
  unfold inD
  simp only
  rw [if_pos ⟨rfl, hf⟩]
  congr 1
  induction l with
  | nil => simp [iL]
  | cons y l ih =>
    have hf' : (iL l).all flatD = true := by
      rw [List.all_eq_true]
      intro d hd
      obtain ⟨i, _, rfl⟩ := List.mem_map.mp hd
      rfl
    rw [iL_cons, List.any_cons, ih hf', PyData.eqv]
    by_cases h : y = x
    · subst h; simp
    · have h' : ¬ x = y := fun e => h e.symm
      by_cases h2 : x ∈ l <;> simp [h, h', h2]
/-! ### the places -/
def lpBody : List CS := [.set 3 (.loc 2), .whl (.cmp .isin (.loc 3) (.loc 1)) [.set 3 (.bin .add (.loc 3) (.lit (.int 1)))], .frz 3, .app 1 (.loc 3)]
theorem lp_turn {T : List Int} {a : Int} {RV : D} {x3 : SV} (ss : SS) (hT : T.length < 1000) : exs lpBody [.v RV, .own (iL T), .v (.int a), x3] ss = some (.nx [.v RV, .own (iL (T ++ [linF T a])), .v (.int a), .v (.int (linF T a))] ss) := by
  have hS : SL = 16777216 := rfl
  obtain ⟨h1, h2, h3⟩ := linF_lin T a
  have hle := linF_le T a
  have s1 : ex (.set 3 (.loc 2)) [.v RV, .own (iL T), .v (.int a), x3] ss = some (.nx [.v RV, .own (iL T), .v (.int a), .v (.int a)] ss) := by simp [x_set, x_unp, x_par, x_sto, x_sto2, x_aug, x_augs, x_app, x_ext, x_popS, x_exp, x_ite, x_forr, x_whl, x_ret, x_retn, x_frz, x_kill, x_dput, e_lit, e_glo, e_loc, e_bin, e_neg, e_not, e_and, e_or, e_cmp, e_cmp2, e_ife, e_tup, e_lst, e_idx, e_sli, e_nop, e_rev, e_bi, e_met, e_call, e_newk, e_newt, e_dhas, e_dget, e_dget2, e_star, e_rg1, e_rg2, e_enm, e_zip, e_sget, e_slen, es_nil, es_cons, toD, toB, toE, toI, toDs, toX, toC, O.f, rd, rds, esc, asB, bl, itR, seqOf, dispR, condR, getR, slR, setS, toS, toSet, toAs, toA, callD, isOut, cmpD, ordD, binD, addD, subD, modD, negD, biD, lenD, intD, absD, max2D, min2D, tupleD, listD, idxD, lcB, TGt.slots, killS, bindT, bindTs, AV.sv, isTD, isT, tag, isTs, isNone, R.lf, lf, lf.lfs, isBo, iL_len, iL_get, ownL, retR, frzS]
  have s2 : ex (.whl (.cmp .isin (.loc 3) (.loc 1)) [.set 3 (.bin .add (.loc 3) (.lit (.int 1)))]) [.v RV, .own (iL T), .v (.int a), .v (.int a)] ss = some (.nx [.v RV, .own (iL T), .v (.int a), .v (.int (linF T a))] ss) := by
    have key := whD_run (c := fun sl ss => toB (ev (.cmp .isin (.loc 3) (.loc 1)) sl ss)) (f := fun sl ss => exs [.set 3 (.bin .add (.loc 3) (.lit (.int 1)))] sl ss)
      (S := fun i => [.v RV, .own (iL T), .v (.int a), .v (.int (a + i))]) (ss := ss) (linF T a - a).toNat 0 FUEL (by show _ < 100000; omega) (fun i _ hi => ⟨?_, ?_⟩) ?_
    · have e0 : a + ((0 : Nat) : Int) = a := by omega
      have e1 : a + ((0 + (linF T a - a).toNat : Nat) : Int) = linF T a := by omega
      simp only [e0, e1] at key
      rw [x_whl]
      exact key
    · have := in_lst (a + i) T
      have hin := h3 (a + i) (by omega) (by omega)
      simp [e_lit, e_glo, e_loc, e_bin, e_neg, e_not, e_and, e_or, e_cmp, e_cmp2, e_ife, e_tup, e_lst, e_idx, e_sli, e_nop, e_rev, e_bi, e_met, e_call, e_newk, e_newt, e_dhas, e_dget, e_dget2, e_star, e_rg1, e_rg2, e_enm, e_zip, e_sget, e_slen, es_nil, es_cons, toD, toB, toE, toI, toDs, toX, toC, O.f, rd, rds, esc, asB, bl, itR, seqOf, dispR, condR, getR, slR, setS, toS, toSet, toAs, toA, callD, isOut, cmpD, ordD, binD, addD, subD, modD, negD, biD, lenD, intD, absD, max2D, min2D, tupleD, listD, idxD, lcB, TGt.slots, killS, bindT, bindTs, AV.sv, isTD, isT, tag, isTs, isNone, R.lf, lf, lf.lfs, isBo, iL_len, iL_get, this, hin]
    · have e1 : a + (i : Int) + 1 = a + ((i : Int) + 1) := by omega
      simp [x_set, x_unp, x_par, x_sto, x_sto2, x_aug, x_augs, x_app, x_ext, x_popS, x_exp, x_ite, x_forr, x_whl, x_ret, x_retn, x_frz, x_kill, x_dput, e_lit, e_glo, e_loc, e_bin, e_neg, e_not, e_and, e_or, e_cmp, e_cmp2, e_ife, e_tup, e_lst, e_idx, e_sli, e_nop, e_rev, e_bi, e_met, e_call, e_newk, e_newt, e_dhas, e_dget, e_dget2, e_star, e_rg1, e_rg2, e_enm, e_zip, e_sget, e_slen, es_nil, es_cons, toD, toB, toE, toI, toDs, toX, toC, O.f, rd, rds, esc, asB, bl, itR, seqOf, dispR, condR, getR, slR, setS, toS, toSet, toAs, toA, callD, isOut, cmpD, ordD, binD, addD, subD, modD, negD, biD, lenD, intD, absD, max2D, min2D, tupleD, listD, idxD, lcB, TGt.slots, killS, bindT, bindTs, AV.sv, isTD, isT, tag, isTs, isNone, R.lf, lf, lf.lfs, isBo, iL_len, iL_get, ownL, retR, frzS, exs_cons, exs_nil, e1]
    · have e1 : a + ((0 + (linF T a - a).toNat : Nat) : Int) = linF T a := by omega
      have := in_lst (linF T a) T
      simp only [e1]
      simp [e_lit, e_glo, e_loc, e_bin, e_neg, e_not, e_and, e_or, e_cmp, e_cmp2, e_ife, e_tup, e_lst, e_idx, e_sli, e_nop, e_rev, e_bi, e_met, e_call, e_newk, e_newt, e_dhas, e_dget, e_dget2, e_star, e_rg1, e_rg2, e_enm, e_zip, e_sget, e_slen, es_nil, es_cons, toD, toB, toE, toI, toDs, toX, toC, O.f, rd, rds, esc, asB, bl, itR, seqOf, dispR, condR, getR, slR, setS, toS, toSet, toAs, toA, callD, isOut, cmpD, ordD, binD, addD, subD, modD, negD, biD, lenD, intD, absD, max2D, min2D, tupleD, listD, idxD, lcB, TGt.slots, killS, bindT, bindTs, AV.sv, isTD, isT, tag, isTs, isNone, R.lf, lf, lf.lfs, isBo, iL_len, iL_get, this, h2]
  have hT2 : T.length < SL := by omega
  unfold lpBody
  rw [exs_nx s1, exs_nx s2]
  simp [x_set, x_unp, x_par, x_sto, x_sto2, x_aug, x_augs, x_app, x_ext, x_popS, x_exp, x_ite, x_forr, x_whl, x_ret, x_retn, x_frz, x_kill, x_dput, e_lit, e_glo, e_loc, e_bin, e_neg, e_not, e_and, e_or, e_cmp, e_cmp2, e_ife, e_tup, e_lst, e_idx, e_sli, e_nop, e_rev, e_bi, e_met, e_call, e_newk, e_newt, e_dhas, e_dget, e_dget2, e_star, e_rg1, e_rg2, e_enm, e_zip, e_sget, e_slen, es_nil, es_cons, toD, toB, toE, toI, toDs, toX, toC, O.f, rd, rds, esc, asB, bl, itR, seqOf, dispR, condR, getR, slR, setS, toS, toSet, toAs, toA, callD, isOut, cmpD, ordD, binD, addD, subD, modD, negD, biD, lenD, intD, absD, max2D, min2D, tupleD, listD, idxD, lcB, TGt.slots, killS, bindT, bindTs, AV.sv, isTD, isT, tag, isTs, isNone, R.lf, lf, lf.lfs, isBo, iL_len, iL_get, ownL, retR, frzS, exs_cons, exs_nil, hT2, iL_app, iL_cons, iL_nil]
theorem lp_loop {RV : D} (ss : SS) : ∀ (row T : List Int) (x2 x3 : SV), T.length + row.length ≤ 1000 →
    ∃ y2 y3, forD (fun d sl' ss' => (bindT (.one 2) d sl').bind fun sl' => exs lpBody sl' ss') (iL row) [.v RV, .own (iL T), x2, x3] ss = some (.nx [.v RV, .own (iL (linP T row)), y2, y3] ss)
  | [], T, x2, x3, _ => ⟨x2, x3, rfl⟩
  | a :: r, T, x2, x3, hl => by
    simp only [List.length_cons] at hl
    obtain ⟨y2, y3, e⟩ := lp_loop (RV := RV) ss r (T ++ [linF T a]) (.v (.int a)) (.v (.int (linF T a))) (by rw [List.length_append, List.length_singleton]; omega)
    refine ⟨y2, y3, ?_⟩
    rw [iL_cons]
    unfold forD
    have e4 : bindT (.one 2) (.int a) [.v RV, .own (iL T), x2, x3] = some [.v RV, .own (iL T), .v (.int a), x3] := by simp [bindT, setS]
    rw [e4]
    simp only [Option.bind_some]
    rw [lp_turn ss (by omega)]
    exact e
theorem places_eq {row : List Int} (ss : SS) (hl : row.length ≤ 900) : F__law_places [.v (.tuple (iL row))] ss = some (.v (.tuple (iL (places row))), ss) := by
  refine (runF_eq (np := 1) (N := 4) (body := B__law_places) (args := [.v (.tuple (iL row))]) rfl).trans ?_
  obtain ⟨y2, y3, e⟩ := lp_loop (RV := .tuple (iL row)) ss row [] .un .un (by simp; omega)
  have s1 : ex (.set 1 (.lst [])) [.v (.tuple (iL row)), .un, .un, .un] ss = some (.nx [.v (.tuple (iL row)), .own (iL []), .un, .un] ss) := by simp [x_set, x_unp, x_par, x_sto, x_sto2, x_aug, x_augs, x_app, x_ext, x_popS, x_exp, x_ite, x_forr, x_whl, x_ret, x_retn, x_frz, x_kill, x_dput, e_lit, e_glo, e_loc, e_bin, e_neg, e_not, e_and, e_or, e_cmp, e_cmp2, e_ife, e_tup, e_lst, e_idx, e_sli, e_nop, e_rev, e_bi, e_met, e_call, e_newk, e_newt, e_dhas, e_dget, e_dget2, e_star, e_rg1, e_rg2, e_enm, e_zip, e_sget, e_slen, es_nil, es_cons, toD, toB, toE, toI, toDs, toX, toC, O.f, rd, rds, esc, asB, bl, itR, seqOf, dispR, condR, getR, slR, setS, toS, toSet, toAs, toA, callD, isOut, cmpD, ordD, binD, addD, subD, modD, negD, biD, lenD, intD, absD, max2D, min2D, tupleD, listD, idxD, lcB, TGt.slots, killS, bindT, bindTs, AV.sv, isTD, isT, tag, isTs, isNone, R.lf, lf, lf.lfs, isBo, iL_len, iL_get, ownL, retR, frzS, iL_nil]
  have s2 : ex (.forr (.one 2) (.loc 0) lpBody) [.v (.tuple (iL row)), .own (iL []), .un, .un] ss = some (.nx [.v (.tuple (iL row)), .own (iL (places row)), y2, y3] ss) := by
    rw [x_for (is := [0]) (ds := iL row) (ss1 := ss) rfl (by simp [e_lit, e_glo, e_loc, e_bin, e_neg, e_not, e_and, e_or, e_cmp, e_cmp2, e_ife, e_tup, e_lst, e_idx, e_sli, e_nop, e_rev, e_bi, e_met, e_call, e_newk, e_newt, e_dhas, e_dget, e_dget2, e_star, e_rg1, e_rg2, e_enm, e_zip, e_sget, e_slen, es_nil, es_cons, toD, toB, toE, toI, toDs, toX, toC, O.f, rd, rds, esc, asB, bl, itR, seqOf, dispR, condR, getR, slR, setS, toS, toSet, toAs, toA, callD, isOut, cmpD, ordD, binD, addD, subD, modD, negD, biD, lenD, intD, absD, max2D, min2D, tupleD, listD, idxD, lcB, TGt.slots, killS, bindT, bindTs, AV.sv, isTD, isT, tag, isTs, isNone, R.lf, lf, lf.lfs, isBo, iL_len, iL_get]) (fun i hi => by simp at hi; subst hi; exact ⟨rfl, rfl⟩)]
    exact e
  show outF (exs (.set 1 (.lst []) :: .forr (.one 2) (.loc 0) lpBody :: [.ret (.bi .tuple [(.loc 1)])]) [.v (.tuple (iL row)), .un, .un, .un] ss) = _
  rw [exs_nx s1, exs_nx s2]
  simp [exs_cons, exs_nil, x_ret, e_lit, e_glo, e_loc, e_bin, e_neg, e_not, e_and, e_or, e_cmp, e_cmp2, e_ife, e_tup, e_lst, e_idx, e_sli, e_nop, e_rev, e_bi, e_met, e_call, e_newk, e_newt, e_dhas, e_dget, e_dget2, e_star, e_rg1, e_rg2, e_enm, e_zip, e_sget, e_slen, es_nil, es_cons, toD, toB, toE, toI, toDs, toX, toC, O.f, rd, rds, esc, asB, bl, itR, seqOf, dispR, condR, getR, slR, setS, toS, toSet, toAs, toA, callD, isOut, cmpD, ordD, binD, addD, subD, modD, negD, biD, lenD, intD, absD, max2D, min2D, tupleD, listD, idxD, lcB, TGt.slots, killS, bindT, bindTs, AV.sv, isTD, isT, tag, isTs, isNone, R.lf, lf, lf.lfs, isBo, iL_len, iL_get, retR, outF]
def ppBody : List CS := [.app 1 (.idx (.lc (.loc 3) (.one 3) (.rg2 (.loc 2) (.bi .len [(.loc 0)])) [(.cmp .notin (.loc 3) (.loc 1))]) (.lit (.int 0)))]
theorem pp_turn {row T : List Int} {a : Int} (ss : SS) (hm : row.length < 1000) (hT : T.length < 1000) (ha : 0 ≤ a ∧ a < 1000) (hf : linF T a < (row.length : Int)) :
    exs ppBody [.v (.tuple (iL row)), .own (iL T), .v (.int a), .un] ss = some (.nx [.v (.tuple (iL row)), .own (iL (T ++ [linF T a])), .v (.int a), .un] ss) := by
  have hS : SL = 16777216 := rfl
  have hle := (linF_lin T a).1
  have h1 := rg2_gen (i := a) (n := row.length) ⟨by omega, by omega⟩ ⟨by omega, by omega⟩
  have a1 : toD (ev (.loc 2) [.v (.tuple (iL row)), .own (iL T), .v (.int a), .un] ss) = some (.int a, ss) := rfl
  have a2 : toD (ev (.bi .len [(.loc 0)]) [.v (.tuple (iL row)), .own (iL T), .v (.int a), .un] ss) = some (.int row.length, ss) := by simp [e_lit, e_glo, e_loc, e_bin, e_neg, e_not, e_and, e_or, e_cmp, e_cmp2, e_ife, e_tup, e_lst, e_idx, e_sli, e_nop, e_rev, e_bi, e_met, e_call, e_newk, e_newt, e_dhas, e_dget, e_dget2, e_star, e_rg1, e_rg2, e_enm, e_zip, e_sget, e_slen, es_nil, es_cons, toD, toB, toE, toI, toDs, toX, toC, O.f, rd, rds, esc, asB, bl, itR, seqOf, dispR, condR, getR, slR, setS, toS, toSet, toAs, toA, callD, isOut, cmpD, ordD, binD, addD, subD, modD, negD, biD, lenD, intD, absD, max2D, min2D, tupleD, listD, idxD, lcB, TGt.slots, killS, bindT, bindTs, AV.sv, isTD, isT, tag, isTs, isNone, R.lf, lf, lf.lfs, isBo, iL_len, iL_get]
  have h2 : toI (ev (.rg2 (.loc 2) (.bi .len [(.loc 0)])) [.v (.tuple (iL row)), .own (iL T), .v (.int a), .un] ss) = some (iL (ladder ((row.length : Int) - a).toNat a), ss) := by
    rw [r2g a1 a2 h1]
    rfl
  have h3 := pick_free (i := 3) (j := 1) (T := T) (f := linF T a) h2 (by rw [ladder_len]; omega) (ladder_find (linF_lin T a) (by omega)) fun x => by
    have := in_lst x T
    by_cases q : x ∈ T <;> simp [e_lit, e_glo, e_loc, e_bin, e_neg, e_not, e_and, e_or, e_cmp, e_cmp2, e_ife, e_tup, e_lst, e_idx, e_sli, e_nop, e_rev, e_bi, e_met, e_call, e_newk, e_newt, e_dhas, e_dget, e_dget2, e_star, e_rg1, e_rg2, e_enm, e_zip, e_sget, e_slen, es_nil, es_cons, toD, toB, toE, toI, toDs, toX, toC, O.f, rd, rds, esc, asB, bl, itR, seqOf, dispR, condR, getR, slR, setS, toS, toSet, toAs, toA, callD, isOut, cmpD, ordD, binD, addD, subD, modD, negD, biD, lenD, intD, absD, max2D, min2D, tupleD, listD, idxD, lcB, TGt.slots, killS, bindT, bindTs, AV.sv, isTD, isT, tag, isTs, isNone, R.lf, lf, lf.lfs, isBo, iL_len, iL_get, this, q]
  have hT2 : T.length < SL := by omega
  unfold ppBody
  rw [exs_cons, x_app, h3]
  simp [x_set, x_unp, x_par, x_sto, x_sto2, x_aug, x_augs, x_app, x_ext, x_popS, x_exp, x_ite, x_forr, x_whl, x_ret, x_retn, x_frz, x_kill, x_dput, e_lit, e_glo, e_loc, e_bin, e_neg, e_not, e_and, e_or, e_cmp, e_cmp2, e_ife, e_tup, e_lst, e_idx, e_sli, e_nop, e_rev, e_bi, e_met, e_call, e_newk, e_newt, e_dhas, e_dget, e_dget2, e_star, e_rg1, e_rg2, e_enm, e_zip, e_sget, e_slen, es_nil, es_cons, toD, toB, toE, toI, toDs, toX, toC, O.f, rd, rds, esc, asB, bl, itR, seqOf, dispR, condR, getR, slR, setS, toS, toSet, toAs, toA, callD, isOut, cmpD, ordD, binD, addD, subD, modD, negD, biD, lenD, intD, absD, max2D, min2D, tupleD, listD, idxD, lcB, TGt.slots, killS, bindT, bindTs, AV.sv, isTD, isT, tag, isTs, isNone, R.lf, lf, lf.lfs, isBo, iL_len, iL_get, ownL, retR, frzS, exs_nil, hT2, iL_app, iL_cons, iL_nil]
theorem pp_loop {row : List Int} (ss : SS) (hm : row.length < 1000) : ∀ (r T : List Int) (x2 : SV), (∀ z ∈ r, 0 ≤ z ∧ z < 1000) → T.length + r.length < 1000 → (∀ z ∈ linP T r, z < (row.length : Int)) →
    ∃ y2, forD (fun d sl' ss' => (bindT (.one 2) d sl').bind fun sl' => exs ppBody sl' ss') (iL r) [.v (.tuple (iL row)), .own (iL T), x2, .un] ss = some (.nx [.v (.tuple (iL row)), .own (iL (linP T r)), y2, .un] ss)
  | [], T, x2, _, _, _ => ⟨x2, rfl⟩
  | a :: r, T, x2, hb, hl, hp => by
    simp only [List.length_cons] at hl
    obtain ⟨S, hS, _⟩ := linP_pre r (T ++ [linF T a])
    have hf : linF T a < (row.length : Int) := hp _ (by unfold linP; rw [hS]; simp)
    obtain ⟨y2, e⟩ := pp_loop ss hm r (T ++ [linF T a]) (.v (.int a)) (fun z hz => hb z (List.mem_cons_of_mem _ hz)) (by rw [List.length_append, List.length_singleton]; omega) hp
    refine ⟨y2, ?_⟩
    rw [iL_cons]
    unfold forD
    have e4 : bindT (.one 2) (.int a) [.v (.tuple (iL row)), .own (iL T), x2, .un] = some [.v (.tuple (iL row)), .own (iL T), .v (.int a), .un] := by simp [bindT, setS]
    rw [e4]
    simp only [Option.bind_some]
    rw [pp_turn ss hm (by omega) (hb a List.mem_cons_self) hf]
    exact e
theorem pplaces_eq {row : List Int} (ss : SS) (hl : row.length ≤ 900) (hb : ∀ z ∈ row, 0 ≤ z ∧ z < 1000) (hp : ∀ z ∈ places row, z < (row.length : Int)) : F_parking_places [.v (.tuple (iL row))] ss = some (.v (.tuple (iL (places row))), ss) := by
  refine (runF_eq (np := 1) (N := 4) (body := B_parking_places) (args := [.v (.tuple (iL row))]) rfl).trans ?_
  obtain ⟨y2, e⟩ := pp_loop (row := row) ss (by omega) row [] .un hb (by simp; omega) hp
  have s1 : ex (.set 1 (.lst [])) [.v (.tuple (iL row)), .un, .un, .un] ss = some (.nx [.v (.tuple (iL row)), .own (iL []), .un, .un] ss) := by simp [x_set, x_unp, x_par, x_sto, x_sto2, x_aug, x_augs, x_app, x_ext, x_popS, x_exp, x_ite, x_forr, x_whl, x_ret, x_retn, x_frz, x_kill, x_dput, e_lit, e_glo, e_loc, e_bin, e_neg, e_not, e_and, e_or, e_cmp, e_cmp2, e_ife, e_tup, e_lst, e_idx, e_sli, e_nop, e_rev, e_bi, e_met, e_call, e_newk, e_newt, e_dhas, e_dget, e_dget2, e_star, e_rg1, e_rg2, e_enm, e_zip, e_sget, e_slen, es_nil, es_cons, toD, toB, toE, toI, toDs, toX, toC, O.f, rd, rds, esc, asB, bl, itR, seqOf, dispR, condR, getR, slR, setS, toS, toSet, toAs, toA, callD, isOut, cmpD, ordD, binD, addD, subD, modD, negD, biD, lenD, intD, absD, max2D, min2D, tupleD, listD, idxD, lcB, TGt.slots, killS, bindT, bindTs, AV.sv, isTD, isT, tag, isTs, isNone, R.lf, lf, lf.lfs, isBo, iL_len, iL_get, ownL, retR, frzS, iL_nil]
  have s2 : ex (.forr (.one 2) (.loc 0) ppBody) [.v (.tuple (iL row)), .own (iL []), .un, .un] ss = some (.nx [.v (.tuple (iL row)), .own (iL (places row)), y2, .un] ss) := by
    rw [x_for (is := [0]) (ds := iL row) (ss1 := ss) rfl (by simp [e_lit, e_glo, e_loc, e_bin, e_neg, e_not, e_and, e_or, e_cmp, e_cmp2, e_ife, e_tup, e_lst, e_idx, e_sli, e_nop, e_rev, e_bi, e_met, e_call, e_newk, e_newt, e_dhas, e_dget, e_dget2, e_star, e_rg1, e_rg2, e_enm, e_zip, e_sget, e_slen, es_nil, es_cons, toD, toB, toE, toI, toDs, toX, toC, O.f, rd, rds, esc, asB, bl, itR, seqOf, dispR, condR, getR, slR, setS, toS, toSet, toAs, toA, callD, isOut, cmpD, ordD, binD, addD, subD, modD, negD, biD, lenD, intD, absD, max2D, min2D, tupleD, listD, idxD, lcB, TGt.slots, killS, bindT, bindTs, AV.sv, isTD, isT, tag, isTs, isNone, R.lf, lf, lf.lfs, isBo, iL_len, iL_get]) (fun i hi => by simp at hi; subst hi; exact ⟨rfl, rfl⟩)]
    exact e
  show outF (exs (.set 1 (.lst []) :: .forr (.one 2) (.loc 0) ppBody :: [.ret (.bi .tuple [(.loc 1)])]) [.v (.tuple (iL row)), .un, .un, .un] ss) = _
  rw [exs_nx s1, exs_nx s2]
  simp [exs_cons, exs_nil, x_ret, e_lit, e_glo, e_loc, e_bin, e_neg, e_not, e_and, e_or, e_cmp, e_cmp2, e_ife, e_tup, e_lst, e_idx, e_sli, e_nop, e_rev, e_bi, e_met, e_call, e_newk, e_newt, e_dhas, e_dget, e_dget2, e_star, e_rg1, e_rg2, e_enm, e_zip, e_sget, e_slen, es_nil, es_cons, toD, toB, toE, toI, toDs, toX, toC, O.f, rd, rds, esc, asB, bl, itR, seqOf, dispR, condR, getR, slR, setS, toS, toSet, toAs, toA, callD, isOut, cmpD, ordD, binD, addD, subD, modD, negD, biD, lenD, intD, absD, max2D, min2D, tupleD, listD, idxD, lcB, TGt.slots, killS, bindT, bindTs, AV.sv, isTD, isT, tag, isTs, isNone, R.lf, lf, lf.lfs, isBo, iL_len, iL_get, retR, outF]
/-- the told paper -/
def toldD (row : List Int) : D := match fewL row with
  | [] => .tuple [.str "parking", .tuple (iL (places row))]
  | x :: _ => .tuple [.str "few", .int x]
theorem paper_eq {row : List Int} (ss : SS) (hl : row.length ≤ 900) (hb : ∀ z ∈ row, 0 ≤ z ∧ z < 1000) : F_parking_paper [.v (.tuple (iL row))] ss = some (.v (toldD row), ss) := by
  have hS : SL = 16777216 := rfl
  have q2 : 2 ≤ SL := by omega
  refine (runF_eq (np := 1) (N := 2) (body := B_parking_paper) (args := [.v (.tuple (iL row))]) rfl).trans ?_
  have h1 := few_eq row ss (by omega)
  show outF (exs B_parking_paper [.v (.tuple (iL row)), .un] ss) = _
  unfold B_parking_paper toldD
  cases e : fewL row with
  | nil =>
    have hp := park_places (fun z hz => (hb z hz).1) ((few_park row).mp e)
    have h2 := pplaces_eq ss hl hb fun z hz => (hp z hz).2
    rw [e] at h1
    simp [exs_cons, exs_nil, x_set, x_unp, x_par, x_sto, x_sto2, x_aug, x_augs, x_app, x_ext, x_popS, x_exp, x_ite, x_forr, x_whl, x_ret, x_retn, x_frz, x_kill, x_dput, e_lit, e_glo, e_loc, e_bin, e_neg, e_not, e_and, e_or, e_cmp, e_cmp2, e_ife, e_tup, e_lst, e_idx, e_sli, e_nop, e_rev, e_bi, e_met, e_call, e_newk, e_newt, e_dhas, e_dget, e_dget2, e_star, e_rg1, e_rg2, e_enm, e_zip, e_sget, e_slen, es_nil, es_cons, toD, toB, toE, toI, toDs, toX, toC, O.f, rd, rds, esc, asB, bl, itR, seqOf, dispR, condR, getR, slR, setS, toS, toSet, toAs, toA, callD, isOut, cmpD, ordD, binD, addD, subD, modD, negD, biD, lenD, intD, absD, max2D, min2D, tupleD, listD, idxD, lcB, TGt.slots, killS, bindT, bindTs, AV.sv, isTD, isT, tag, isTs, isNone, R.lf, lf, lf.lfs, isBo, iL_len, iL_get, ownL, retR, frzS, h1, h2, headD, retR, outF, q2]
  | cons x r =>
    rw [e] at h1
    simp [exs_cons, exs_nil, x_set, x_unp, x_par, x_sto, x_sto2, x_aug, x_augs, x_app, x_ext, x_popS, x_exp, x_ite, x_forr, x_whl, x_ret, x_retn, x_frz, x_kill, x_dput, e_lit, e_glo, e_loc, e_bin, e_neg, e_not, e_and, e_or, e_cmp, e_cmp2, e_ife, e_tup, e_lst, e_idx, e_sli, e_nop, e_rev, e_bi, e_met, e_call, e_newk, e_newt, e_dhas, e_dget, e_dget2, e_star, e_rg1, e_rg2, e_enm, e_zip, e_sget, e_slen, es_nil, es_cons, toD, toB, toE, toI, toDs, toX, toC, O.f, rd, rds, esc, asB, bl, itR, seqOf, dispR, condR, getR, slR, setS, toS, toSet, toAs, toA, callD, isOut, cmpD, ordD, binD, addD, subD, modD, negD, biD, lenD, intD, absD, max2D, min2D, tupleD, listD, idxD, lcB, TGt.slots, killS, bindT, bindTs, AV.sv, isTD, isT, tag, isTs, isNone, R.lf, lf, lf.lfs, isBo, iL_len, iL_get, ownL, retR, frzS, h1, headD, retR, outF, q2]
end K_roundswaps_k15_parkings_judged
namespace K_roundswaps_k15_parkings_judged
open PySem Pm Park
theorem sli_take (v : List Int) (k : Nat) : sliD (.tuple (iL v)) .none (.int k) = some (.v (.tuple (iL (v.take k)))) := by
  have hk : ¬ (k : Int) < 0 := by omega
  have e1 : sIx (iL v).length 0 PyData.none = some 0 := rfl
  have e2 : sIx (iL v).length (iL v).length (.int k) = some (min k v.length) := by
    unfold sIx
    simp [hk, iL_len]
  unfold sliD cut
  simp only [e1, e2, Option.map_some]
  congr 3
  unfold iL
  rw [List.drop_zero, Nat.sub_zero, ← List.map_take]
  congr 1
  rcases Nat.le_total k v.length with h | h
  · rw [Nat.min_eq_left h]
  · rw [Nat.min_eq_right h, List.take_of_length_le (Nat.le_refl _), List.take_of_length_le h]
/-! ### rules by premises -/
section
variable {a b c : CE} {sl : List SV} {ss s1 s2 s3 : SS} {x y d : D}
theorem td_v {m : O R} (h : m = some (.v x, s1)) : toD m = some (x, s1) := by rw [h]; rfl
theorem tb_v {m : O R} {k : Bool} (h : m = some (bl k, s1)) : toB m = some (k, s1) := by rw [h]; rfl
theorem v_idx (ha : ev a sl ss = some (.v x, s1)) (hb : ev b sl s1 = some (.v y, s2)) (h : idxD x y = some d) : ev (.idx a b) sl ss = some (.v d, s2) := by
  rw [e_idx, td_v ha]
  simp only [Option.bind_some]
  rw [td_v hb]
  simp only [Option.bind_some, h, Option.map_some]
theorem v_cmp {o : COp} {k : Bool} (ha : ev a sl ss = some (.v x, s1)) (hb : ev b sl s1 = some (.v y, s2)) (h : cmpD o x y = some k) : ev (.cmp o a b) sl ss = some (bl k, s2) := by
  rw [e_cmp, td_v ha]
  simp only [Option.bind_some]
  rw [td_v hb]
  simp only [Option.bind_some, h, Option.map_some]
theorem v_cmpL {o : COp} {k : Bool} {xs : List D} (ha : ev a sl ss = some (.fr xs, s1)) (hb : ev b sl s1 = some (.fr [], s2)) (h : cmpD o (.list xs) (.list []) = some k) : ev (.cmp o a b) sl ss = some (bl k, s2) := by
  rw [e_cmp, ha]
  simp only [toD, O.f, Option.bind_some, rd, Option.map_some, hb, h]
theorem v_bin {o : BOp} {r : R} (ha : ev a sl ss = some (.v x, s1)) (hb : ev b sl s1 = some (.v y, s2)) (h : binD o x y = some r) : ev (.bin o a b) sl ss = some (r, s2) := by
  rw [e_bin, td_v ha]
  simp only [Option.bind_some]
  rw [td_v hb]
  simp only [Option.bind_some, h, Option.map_some]
theorem v_orT (ha : ev a sl ss = some (bl true, s1)) : ev (.or a b) sl ss = some (bl true, s1) := by
  rw [e_or, tb_v ha]; rfl
theorem v_orF {k : Bool} (ha : ev a sl ss = some (bl false, s1)) (hb : ev b sl s1 = some (bl k, s2)) : ev (.or a b) sl ss = some (bl k, s2) := by
  rw [e_or, tb_v ha]
  simp only [Option.bind_some, Bool.false_eq_true, if_false]
  rw [tb_v hb]; rfl
theorem v_andF (ha : ev a sl ss = some (bl false, s1)) : ev (.and a b) sl ss = some (bl false, s1) := by
  rw [e_and, tb_v ha]; rfl
theorem v_andT {k : Bool} (ha : ev a sl ss = some (bl true, s1)) (hb : ev b sl s1 = some (bl k, s2)) : ev (.and a b) sl ss = some (bl k, s2) := by
  rw [e_and, tb_v ha]
  simp only [Option.bind_some, if_true]
  rw [tb_v hb]; rfl
theorem v_not {k : Bool} (ha : ev a sl ss = some (bl k, s1)) : ev (.not a) sl ss = some (bl (!k), s1) := by
  rw [e_not, tb_v ha]; rfl
theorem v_bi1 {f : Bi} {r : R} (ha : ev a sl ss = some (.v x, s1)) (h : biD f [x] = some r) : ev (.bi f [a]) sl ss = some (r, s1) := by
  rw [e_bi, es_cons, ha]
  simp only [es_nil, toDs, O.f, Option.bind_some, rds, rd, Option.map_some, h]
theorem v_len {xs : List D} (ha : ev a sl ss = some (.fr xs, s1)) : ev (.bi .len [a]) sl ss = some (.v (.int xs.length), s1) := by
  rw [e_bi, es_cons, ha]
  rfl
theorem v_call1 {x' : Str} {f : Fn} {r : R} (ha : ev a sl ss = some (.v x, s1)) (h : f [.v x] s1 = some (r, s2)) (ho : isOut r = true) : ev (.call x' f [a]) sl ss = some (r, s2) := by
  rw [e_call, es_cons, ha]
  simp only [es_nil, Option.bind_some, callD, toAs, toA, Option.map_some, h, ho, List.any_cons, List.any_nil, isBo, Bool.or_false, Bool.false_eq_true, false_implies, and_true, if_true]
theorem v_call2 {x' : Str} {f : Fn} {r : R} (ha : ev a sl ss = some (.v x, s1)) (hb : ev b sl s1 = some (.v y, s2)) (h : f [.v x, .v y] s2 = some (r, s3)) (ho : isOut r = true) : ev (.call x' f [a, b]) sl ss = some (r, s3) := by
  rw [e_call, es_cons, ha]
  simp only [Option.bind_some]
  rw [es_cons, hb]
  simp only [es_nil, Option.bind_some, callD, toAs, toA, Option.map_some, h, ho, List.any_cons, List.any_nil, isBo, Bool.or_false, Bool.false_eq_true, false_implies, and_true, if_true]
theorem s_iteT {u v : List CS} (h : ev c sl ss = some (bl true, s1)) : ex (.ite c u v) sl ss = exs u sl s1 := by
  rw [x_ite, tb_v h]; rfl
theorem s_iteF {u v : List CS} (h : ev c sl ss = some (bl false, s1)) : ex (.ite c u v) sl ss = exs v sl s1 := by
  rw [x_ite, tb_v h]; rfl
theorem s_iteN {u : List CS} (h : ev c sl ss = some (bl false, s1)) : ex (.ite c u []) sl ss = some (.nx sl s1) := s_iteF h
theorem s_ret {r r' : R} (h : ev a sl ss = some (r, s1)) (hr : retR r = some r') : ex (.ret a) sl ss = some (.rt r' s1) := by
  rw [x_ret, h]
  simp only [O.f, Option.bind_some, hr, Option.map_some]
theorem s_set {i : Nat} {r : R} {s : SV} (h : ev a sl ss = some (r, s1)) (hr : toS r = some s) (hi : i < sl.length) : ex (.set i a) sl ss = some (.nx (sl.set i s) s1) := by
  rw [x_set, h]
  simp only [toSet, Option.bind_some, hr, setS, hi, if_true, Option.map_some]
theorem v_take {v : List Int} {k : Nat} (ha : ev a sl ss = some (.v (.tuple (iL v)), s1)) (hi : ev b sl s1 = some (.v (.int k), s2)) (hn : isNop b = false) : ev (.sli a .nop b) sl ss = some (.v (.tuple (iL (v.take k))), s2) := by
  have h := sli_take v k
  have t1 : ev .nop sl s1 = some (.v .none, s1) := rfl
  have t2 : toP .nop (ev .nop sl s1) = some (.none, s1) := rfl
  have t3 : toP b (ev b sl s1) = some (.int k, s2) := by
    unfold toP
    rw [hn, hi]
    rfl
  rw [e_sli, td_v ha]
  simp only [Option.bind_some, t2, t3, h, Option.map_some]
end
/-- the place k is right -/
def okAt (r v : List Int) (k : Nat) : Bool := decide (v.getD k 0 = linF (v.take k) (r.getD k 0))
def okL (r v : List Int) : Bool := (List.range v.length).all (okAt r v)
def apP (r v : List Int) : D → Bool
  | .tuple [.int k, .int _] => okAt r v k.toNat
  | _ => true
theorem idx_tup (r : List Int) (k : Nat) (hk : k < r.length) : idxD (.tuple (iL r)) (.int k) = some (.int (r.getD k 0)) := by
  have e : ixN (iL r).length (k : Int) = some k := by
    show L2.ixN (iL r).length (k : Int) = some k
    unfold L2.ixN
    rw [iL_len]
    first
      | (simp; omega)
      | (rw [if_neg (by omega)]; simp; omega)
      | (split <;> simp_all <;> omega)
  unfold idxD
  simp only [e, Option.bind_some, iL_get, List.getD_eq_getElem?_getD]
  rw [List.getElem?_eq_getElem hk]
  rfl
def apBody : List CS := [.ite (.or (.cmp .lt (.loc 3) (.idx (.loc 0) (.loc 2))) (.cmp .isin (.loc 3) (.sli (.loc 1) .nop (.loc 2)))) [.ret (.lit (.bool false))] [], .ite (.cmp .ne (.lc (.loc 4) (.one 4) (.rg2 (.idx (.loc 0) (.loc 2)) (.loc 3)) [(.cmp .notin (.loc 4) (.sli (.loc 1) .nop (.loc 2)))]) (.lst [])) [.ret (.lit (.bool false))] []]
theorem ap_turn {r v : List Int} {k : Nat} (ss : SS) (hk : k < r.length) (hk' : k < v.length) (hr : ∀ z ∈ r, 0 ≤ z ∧ z < 900) (hv : ∀ z ∈ v, 0 ≤ z ∧ z < 900) :
    exs apBody [.v (.tuple (iL r)), .v (.tuple (iL v)), .v (.int k), .v (.int (v.getD k 0)), .un] ss = if okAt r v k then some (.nx [.v (.tuple (iL r)), .v (.tuple (iL v)), .v (.int k), .v (.int (v.getD k 0)), .un] ss) else some (.rt (.v (.bool false)) ss) := by
  have hS : SL = 16777216 := rfl
  have hrk : 0 ≤ r.getD k 0 ∧ r.getD k 0 < 900 := by
    rw [List.getD_eq_getElem?_getD, List.getElem?_eq_getElem hk]
    exact hr _ (List.getElem_mem hk)
  have hvk : 0 ≤ v.getD k 0 ∧ v.getD k 0 < 900 := by
    rw [List.getD_eq_getElem?_getD, List.getElem?_eq_getElem hk']
    exact hv _ (List.getElem_mem hk')
  unfold okAt
  have i1 := idx_tup r k hk
  generalize r.getD k 0 = a at *
  generalize v.getD k 0 = f at *
  have t1 : ev (.sli (.loc 1) .nop (.loc 2)) [.v (.tuple (iL r)), .v (.tuple (iL v)), .v (.int k), .v (.int f), .un] ss = some (.v (.tuple (iL (v.take k))), ss) := v_take (k := k) rfl rfl rfl
  have a1 : ev (.idx (.loc 0) (.loc 2)) [.v (.tuple (iL r)), .v (.tuple (iL v)), .v (.int k), .v (.int f), .un] ss = some (.v (.int a), ss) := v_idx rfl rfl i1
  have m1 := in_tup f (v.take k)
  have hspec := linF_lin (v.take k) a
  have o1 : ev (.cmp .lt (.loc 3) (.idx (.loc 0) (.loc 2))) [.v (.tuple (iL r)), .v (.tuple (iL v)), .v (.int k), .v (.int f), .un] ss = some (bl (decide (f < a)), ss) := v_cmp rfl a1 rfl
  have o2 : ev (.cmp .isin (.loc 3) (.sli (.loc 1) .nop (.loc 2))) [.v (.tuple (iL r)), .v (.tuple (iL v)), .v (.int k), .v (.int f), .un] ss = some (bl (decide (f ∈ v.take k)), ss) := v_cmp rfl t1 m1
  by_cases c1 : f < a
  · have no : ¬ f = linF (v.take k) a := fun e => by have := hspec.1; omega
    rw [decide_eq_false no]
    rw [decide_eq_true c1] at o1
    unfold apBody
    rw [exs_cons, s_iteT (v_orT o1)]
    rfl
  rw [decide_eq_false c1] at o1
  by_cases c2 : f ∈ v.take k
  · have no : ¬ f = linF (v.take k) a := fun e => hspec.2.1 (e ▸ c2)
    rw [decide_eq_false no]
    rw [decide_eq_true c2] at o2
    unfold apBody
    rw [exs_cons, s_iteT (v_orF o1 o2)]
    rfl
  rw [decide_eq_false c2] at o2
  have h1 := rg2_gen (i := a) (n := f) ⟨by omega, by omega⟩ ⟨by omega, by omega⟩
  have h2 : toI (ev (.rg2 (.idx (.loc 0) (.loc 2)) (.loc 3)) [.v (.tuple (iL r)), .v (.tuple (iL v)), .v (.int k), .v (.int f), .un] ss) = some (iL (ladder (f - a).toNat a), ss) := by
    rw [r2g (td_v a1) (td_v (x := .int f) (s1 := ss) rfl) h1]
    rfl
  have h3 := ev_lc_filter (elt := .loc 4) (tg := .one 4) (cond := [(.cmp .notin (.loc 4) (.sli (.loc 1) .nop (.loc 2)))]) (l := ladder (f - a).toNat a) (p := fun x => !decide (x ∈ v.take k)) h2 (by rw [ladder_len]; omega) fun x _ => by
    have t2 : ev (.sli (.loc 1) .nop (.loc 2)) [.v (.tuple (iL r)), .v (.tuple (iL v)), .v (.int k), .v (.int f), .v (.int x)] ss = some (.v (.tuple (iL (v.take k))), ss) := v_take (k := k) rfl rfl rfl
    have m2 := in_tup x (v.take k)
    have m3 : cmpD .notin (.int x) (.tuple (iL (v.take k))) = some (!decide (x ∈ v.take k)) := by
      show (inD (.int x) (.tuple (iL (v.take k)))).map (!·) = _
      rw [m2]
      rfl
    have e1 : ev (.cmp .notin (.loc 4) (.sli (.loc 1) .nop (.loc 2))) [.v (.tuple (iL r)), .v (.tuple (iL v)), .v (.int k), .v (.int f), .v (.int x)] ss = some (bl (!decide (x ∈ v.take k)), ss) := v_cmp rfl t2 m3
    have e2 : bindT (.one 4) (.int x) (killS (TGt.one 4).slots [.v (.tuple (iL r)), .v (.tuple (iL v)), .v (.int k), .v (.int f), .un]) = some [.v (.tuple (iL r)), .v (.tuple (iL v)), .v (.int k), .v (.int f), .v (.int x)] := rfl
    have e3 : toC (evs [(.cmp .notin (.loc 4) (.sli (.loc 1) .nop (.loc 2)))] [.v (.tuple (iL r)), .v (.tuple (iL v)), .v (.int k), .v (.int f), .v (.int x)] ss) = some (!decide (x ∈ v.take k), ss) := by
      rw [es_cons, e1]
      rfl
    unfold lcB
    rw [e2]
    simp only [Option.bind_some, e3]
    by_cases q : x ∈ v.take k
    · rw [decide_eq_true q]; rfl
    · rw [decide_eq_false q]; rfl
  have h4 := eq_lst0 ((ladder (f - a).toNat a).filter fun x => !decide (x ∈ v.take k))
  have h5 : cmpD .ne (.list (iL ((ladder (f - a).toNat a).filter fun x => !decide (x ∈ v.take k)))) (.list []) = some (!decide (((ladder (f - a).toNat a).filter fun x => !decide (x ∈ v.take k)) = [])) := by
    show (eqD _ _).map (!·) = _
    rw [h4]
    rfl
  have g2 : ev (.cmp .ne (.lc (.loc 4) (.one 4) (.rg2 (.idx (.loc 0) (.loc 2)) (.loc 3)) [(.cmp .notin (.loc 4) (.sli (.loc 1) .nop (.loc 2)))]) (.lst [])) [.v (.tuple (iL r)), .v (.tuple (iL v)), .v (.int k), .v (.int f), .un] ss = some (bl (!decide (((ladder (f - a).toNat a).filter fun x => !decide (x ∈ v.take k)) = [])), ss) := v_cmpL h3 rfl h5
  have iff1 : (((ladder (f - a).toNat a).filter fun x => !decide (x ∈ v.take k)) = []) ↔ f = linF (v.take k) a := by
    rw [List.filter_eq_nil_iff]
    constructor
    · intro h
      refine lin_uniq (T := v.take k) (a := a) ⟨by omega, c2, fun y hy hlt => ?_⟩ hspec
      have := h y (ladder_mem.mpr ⟨hy, by omega⟩)
      simpa using this
    · intro hf x hx
      obtain ⟨x1, x2⟩ := ladder_mem.mp hx
      have := hspec.2.2 x x1 (by omega)
      simp [this]
  unfold apBody
  rw [exs_nx (s_iteN (v_orF o1 o2))]
  by_cases q : f = linF (v.take k) a
  · rw [decide_eq_true q]
    rw [decide_eq_true (iff1.mpr q)] at g2
    rw [exs_nx (s_iteN g2)]
    rfl
  · rw [decide_eq_false q]
    rw [decide_eq_false (fun h => q (iff1.mp h))] at g2
    rw [exs_cons, s_iteT g2]
    rfl
theorem find_none_all {α : Type} {p : α → Bool} {l : List α} : l.find? (fun d => !p d) = none ↔ l.all p = true := by
  rw [List.find?_eq_none, List.all_eq_true]
  constructor
  · intro h x hx
    have := h x hx
    simpa using this
  · intro h x hx
    simp [h x hx]
theorem ap_eq {r v : List Int} (ss : SS) (hl : v.length = r.length) (hz : v.length ≤ 900) (hr : ∀ z ∈ r, 0 ≤ z ∧ z < 900) (hv : ∀ z ∈ v, 0 ≤ z ∧ z < 900) : F_are_places [.v (.tuple (iL r)), .v (.tuple (iL v))] ss = some (.v (.bool (okL r v)), ss) := by
  refine (runF_eq (np := 2) (N := 5) (body := B_are_places) (args := [.v (.tuple (iL r)), .v (.tuple (iL v))]) rfl).trans ?_
  have it : toI (ev (.enm (.loc 1)) [.v (.tuple (iL r)), .v (.tuple (iL v)), .un, .un, .un] ss) = some (enumD (iL v), ss) := by simp [e_lit, e_glo, e_loc, e_bin, e_neg, e_not, e_and, e_or, e_cmp, e_cmp2, e_ife, e_tup, e_lst, e_idx, e_sli, e_nop, e_rev, e_bi, e_met, e_call, e_newk, e_newt, e_dhas, e_dget, e_dget2, e_star, e_rg1, e_rg2, e_enm, e_zip, e_sget, e_slen, es_nil, es_cons, toD, toB, toE, toI, toDs, toX, toC, O.f, rd, rds, esc, asB, bl, itR, seqOf, dispR, condR, getR, slR, setS, toS, toSet, toAs, toA, callD, isOut, cmpD, ordD, binD, addD, subD, modD, negD, biD, lenD, intD, absD, max2D, min2D, tupleD, listD, idxD, lcB, TGt.slots, killS, bindT, bindTs, AV.sv, isTD, isT, tag, isTs, isNone, R.lf, lf, lf.lfs, isBo, iL_len, iL_get, enD]
  have fr := x_for (t := .tup [(.one 2), (.one 3)]) (it := .enm (.loc 1)) (body := apBody) (sl := [.v (.tuple (iL r)), .v (.tuple (iL v)), .un, .un, .un]) (ss := ss) (is := [1]) rfl it (fun i hi => by simp at hi; subst hi; exact ⟨rfl, rfl⟩)
  have sc := forD_scan (f := fun d sl' ss' => (bindT (.tup [(.one 2), (.one 3)]) d sl').bind fun sl' => exs apBody sl' ss') (I := fun sl => ∃ x2 x3, sl = [.v (.tuple (iL r)), .v (.tuple (iL v)), x2, x3, .un]) (p := apP r v) (r := fun _ => .v (.bool false)) (ss := ss) (enumD (iL v)) [.v (.tuple (iL r)), .v (.tuple (iL v)), .un, .un, .un] ⟨_, _, rfl⟩ (fun d hd sl hI => by
    rw [enum_iL] at hd
    obtain ⟨p, hp, rfl⟩ := List.mem_map.mp hd
    obtain ⟨x, k⟩ := p
    rw [List.mem_zipIdx_iff_getElem?] at hp
    obtain ⟨hk, e⟩ := List.getElem?_eq_some_iff.mp hp
    have hk : k < v.length := hk
    have e : v[k] = x := e
    obtain ⟨x2, x3, rfl⟩ := hI
    have e4 : bindT (.tup [(.one 2), (.one 3)]) (.tuple [.int (k : Nat), .int x]) [.v (.tuple (iL r)), .v (.tuple (iL v)), x2, x3, .un] = some [.v (.tuple (iL r)), .v (.tuple (iL v)), .v (.int k), .v (.int x), .un] := by simp [bindT, bindTs, setS]
    have ex : v.getD k 0 = x := by rw [List.getD_eq_getElem?_getD, hp]; rfl
    have key := ap_turn ss (r := r) (v := v) (k := k) (by omega) hk hr hv
    rw [ex] at key
    have ep : apP r v (.tuple [.int (k : Nat), .int x]) = okAt r v k := by simp [apP]
    simp only [e4, Option.bind_some, key, ep]
    constructor
    · intro q; rw [if_pos q]; exact ⟨_, rfl, _, _, rfl⟩
    · intro q; rw [if_neg (by rw [q]; exact Bool.false_ne_true)])
  have hall : (enumD (iL v)).all (apP r v) = okL r v := by
    unfold okL
    rw [enum_iL, List.all_map, Bool.eq_iff_iff, List.all_eq_true, List.all_eq_true]
    constructor
    · intro h k hk
      have hk := List.mem_range.mp hk
      have := h (v[k], k) (by rw [List.mem_zipIdx_iff_getElem?]; exact List.getElem?_eq_getElem hk)
      simpa [apP] using this
    · rintro h ⟨x, k⟩ hp
      rw [List.mem_zipIdx_iff_getElem?] at hp
      obtain ⟨hk, _⟩ := List.getElem?_eq_some_iff.mp hp
      have := h k (List.mem_range.mpr hk)
      simpa [apP] using this
  show outF (exs (.forr (.tup [(.one 2), (.one 3)]) (.enm (.loc 1)) apBody :: [.ret (.lit (.bool true))]) [.v (.tuple (iL r)), .v (.tuple (iL v)), .un, .un, .un] ss) = _
  rw [← hall]
  cases q : (enumD (iL v)).find? (fun d => !apP r v d) with
  | none =>
    rw [q] at sc
    obtain ⟨sl', e, _⟩ := sc
    rw [find_none_all.mp q]
    rw [exs_nx (fr.trans e)]
    rfl
  | some d =>
    rw [q] at sc
    have : (enumD (iL v)).all (apP r v) = false := by
      rw [← Bool.not_eq_true]
      intro h
      rw [find_none_all.mpr h] at q
      cases q
    rw [this, exs_rt (fr.trans sc)]
    rfl
end K_roundswaps_k15_parkings_judged
namespace K_roundswaps_k15_parkings_judged
open PySem Pm Park
/-! ### the first wrong place -/
def wrongK (row v : List Int) : Option Nat := (List.range row.length).find? fun k => !okAt row v k
theorem first_bad {ok : Nat → Bool} : ∀ m : Nat, (List.range m).find? (fun k => !(List.range (k + 1)).all ok) = (List.range m).find? fun k => !ok k
  | 0 => rfl
  | m + 1 => by
    rw [List.range_succ, List.find?_append, List.find?_append, first_bad m]
    cases e : (List.range m).find? (fun k => !ok k) with
    | some k => rfl
    | none =>
      rw [List.find?_eq_none] at e
      have h : (List.range (m + 1)).all ok = ok m := by
        rw [List.range_succ, List.all_append]
        have : (List.range m).all ok = true := List.all_eq_true.mpr fun x hx => by have := e x hx; simpa using this
        rw [this]
        simp
      simp only [List.find?_cons, List.find?_nil, h]
theorem okL_take {row v : List Int} {k : Nat} (hl : v.length = row.length) (hk : k < row.length) : okL (row.take (k + 1)) (v.take (k + 1)) = (List.range (k + 1)).all (okAt row v) := by
  unfold okL
  have e : (v.take (k + 1)).length = k + 1 := by rw [List.length_take]; omega
  rw [e, Bool.eq_iff_iff, List.all_eq_true, List.all_eq_true]
  have key : ∀ j, j < k + 1 → okAt (row.take (k + 1)) (v.take (k + 1)) j = okAt row v j := fun j hj => by
    unfold okAt
    simp only [List.getD_eq_getElem?_getD, List.getElem?_take, if_pos hj, List.take_take, Nat.min_eq_left (Nat.le_of_lt hj)]
  constructor
  · intro h j hj; rw [← key j (List.mem_range.mp hj)]; exact h j hj
  · intro h j hj; rw [key j (List.mem_range.mp hj)]; exact h j hj
def placeD : Option Nat → D
  | none => .none
  | some k => .tuple [.str "place", .int k]
def badL (row v : List Int) : List Int := (rgL row.length).filter fun k => !okL (row.take (k.toNat + 1)) (v.take (k.toNat + 1))
theorem badL_head {row v : List Int} (hl : v.length = row.length) : (badL row v = [] ∧ wrongK row v = none) ∨ ∃ (k : Nat) (r : List Int), badL row v = (k : Int) :: r ∧ wrongK row v = some k := by
  have h1 : badL row v = (rgL row.length).filter fun k => !(List.range (k.toNat + 1)).all (okAt row v) := by
    unfold badL
    refine List.filter_congr fun x hx => ?_
    obtain ⟨j, hj, rfl⟩ := List.mem_map.mp hx
    have := List.mem_range.mp hj
    rw [Int.toNat_natCast, okL_take hl this]
  have h2 : (rgL row.length).find? (fun k => !(List.range (k.toNat + 1)).all (okAt row v)) = (wrongK row v).map fun (k : Nat) => (k : Int) := by
    unfold rgL wrongK
    rw [List.find?_map, ← first_bad]
    rfl
  cases e : wrongK row v with
  | none =>
    left
    rw [e] at h2
    refine ⟨?_, rfl⟩
    rw [h1, List.filter_eq_nil_iff]
    intro x hx
    have := List.find?_eq_none.mp h2 x hx
    exact this
  | some k =>
    right
    rw [e] at h2
    obtain ⟨r, hr⟩ := find_filter h2
    exact ⟨k, r, by rw [h1, hr], rfl⟩
theorem wrong_right {row v : List Int} (hl : v.length = row.length) : wrongK row v = none ↔ Right row v := by
  unfold wrongK
  rw [List.find?_eq_none]
  constructor
  · intro h
    refine ⟨hl, fun k hk hk' => ?_⟩
    have := h k (List.mem_range.mpr hk)
    unfold okAt at this
    simp only [List.getD_eq_getElem?_getD, List.getElem?_eq_getElem hk, List.getElem?_eq_getElem hk', Option.getD_some] at this
    simpa using this
  · intro h k hk
    have hk := List.mem_range.mp hk
    have := h.2 k hk (by omega)
    unfold okAt
    simp only [List.getD_eq_getElem?_getD, List.getElem?_eq_getElem hk, List.getElem?_eq_getElem (show k < v.length by omega), Option.getD_some]
    simp [this]
/-! ### what is asked of a paper -/
def formD : D := .tuple [.str "form"]
def cntL (row : List Int) (x : Int) : Int := ((row.filter fun z => decide (z ≤ x)).length : Int)
def fewF (row : List Int) : D → D
  | .int x => if 0 ≤ x ∧ x < (row.length : Int) then (if cntL row x > x then .tuple [.str "many", .int (cntL row x)] else .none) else formD
  | _ => formD
def inR (m : Nat) : D → Bool
  | .int i => decide (0 ≤ i ∧ i < (m : Int))
  | _ => false
def parkF (row : List Int) : D → D
  | .tuple ds => if ds.length = row.length ∧ ds.all (inR row.length) = true then (match intsL ds with
    | some v => placeD (wrongK row v)
    | none => formD) else formD
  | _ => formD
def JF (row : List Int) : D → D
  | .tuple [.str s, y] => if s = "few" then fewF row y else if s = "parking" then parkF row y else formD
  | _ => formD
theorem inR_ints {m : Nat} : ∀ {ds : List D}, ds.all (inR m) = true → ∃ l, ds = iL l ∧ ∀ i ∈ l, 0 ≤ i ∧ i < (m : Int)
  | [], _ => ⟨[], rfl, fun i hi => by cases hi⟩
  | d :: ds, h => by
    rw [List.all_cons, Bool.and_eq_true] at h
    obtain ⟨l, rfl, h2⟩ := inR_ints h.2
    cases d with
    | int i =>
      refine ⟨i :: l, rfl, fun j hj => ?_⟩
      rcases List.mem_cons.mp hj with rfl | hj
      · simpa [inR] using h.1
      · exact h2 j hj
    | _ => simp [inR] at h
theorem jfew_eq {row : List Int} {x : Int} (ss : SS) (hl : row.length ≤ 900) : F_judge_few [.v (.tuple (iL row)), .v (.int x)] ss = some (.v (if cntL row x > x then .tuple [.str "many", .int (cntL row x)] else .none), ss) := by
  have hS : SL = 16777216 := rfl
  have q2 : 2 ≤ SL := by omega
  refine (runF_eq (np := 2) (N := 4) (body := B_judge_few) (args := [.v (.tuple (iL row)), .v (.int x)]) rfl).trans ?_
  have h2 : ev (.lc (.loc 3) (.one 3) (.loc 0) [(.cmp .le (.loc 3) (.loc 1))]) [.v (.tuple (iL row)), .v (.int x), .un, .un] ss = some (.fr (iL (row.filter fun z => decide (z ≤ x))), ss) := by
    refine ev_lc_filter (l := row) ?_ (by omega) fun z _ => ?_
    · simp [e_lit, e_glo, e_loc, e_bin, e_neg, e_not, e_and, e_or, e_cmp, e_cmp2, e_ife, e_tup, e_lst, e_idx, e_sli, e_nop, e_rev, e_bi, e_met, e_call, e_newk, e_newt, e_dhas, e_dget, e_dget2, e_star, e_rg1, e_rg2, e_enm, e_zip, e_sget, e_slen, es_nil, es_cons, toD, toB, toE, toI, toDs, toX, toC, O.f, rd, rds, esc, asB, bl, itR, seqOf, dispR, condR, getR, slR, setS, toS, toSet, toAs, toA, callD, isOut, cmpD, ordD, binD, addD, subD, modD, negD, biD, lenD, intD, absD, max2D, min2D, tupleD, listD, idxD, lcB, TGt.slots, killS, bindT, bindTs, AV.sv, isTD, isT, tag, isTs, isNone, R.lf, lf, lf.lfs, isBo, iL_len, iL_get]
    · simp [e_lit, e_glo, e_loc, e_bin, e_neg, e_not, e_and, e_or, e_cmp, e_cmp2, e_ife, e_tup, e_lst, e_idx, e_sli, e_nop, e_rev, e_bi, e_met, e_call, e_newk, e_newt, e_dhas, e_dget, e_dget2, e_star, e_rg1, e_rg2, e_enm, e_zip, e_sget, e_slen, es_nil, es_cons, toD, toB, toE, toI, toDs, toX, toC, O.f, rd, rds, esc, asB, bl, itR, seqOf, dispR, condR, getR, slR, setS, toS, toSet, toAs, toA, callD, isOut, cmpD, ordD, binD, addD, subD, modD, negD, biD, lenD, intD, absD, max2D, min2D, tupleD, listD, idxD, lcB, TGt.slots, killS, bindT, bindTs, AV.sv, isTD, isT, tag, isTs, isNone, R.lf, lf, lf.lfs, isBo, iL_len, iL_get]
      by_cases h : z ≤ x <;> simp [h]
  have s1 : ex (.set 2 (.bi .len [(.lc (.loc 3) (.one 3) (.loc 0) [(.cmp .le (.loc 3) (.loc 1))])])) [.v (.tuple (iL row)), .v (.int x), .un, .un] ss = some (.nx [.v (.tuple (iL row)), .v (.int x), .v (.int (cntL row x)), .un] ss) := by
    have := v_len h2
    rw [iL_len] at this
    exact s_set this rfl (by simp)
  show outF (exs B_judge_few [.v (.tuple (iL row)), .v (.int x), .un, .un] ss) = _
  unfold B_judge_few
  rw [exs_nx s1]
  by_cases h : cntL row x > x
  · rw [if_pos h]; simp [exs_cons, exs_nil, x_ret, e_lit, e_glo, e_loc, e_bin, e_neg, e_not, e_and, e_or, e_cmp, e_cmp2, e_ife, e_tup, e_lst, e_idx, e_sli, e_nop, e_rev, e_bi, e_met, e_call, e_newk, e_newt, e_dhas, e_dget, e_dget2, e_star, e_rg1, e_rg2, e_enm, e_zip, e_sget, e_slen, es_nil, es_cons, toD, toB, toE, toI, toDs, toX, toC, O.f, rd, rds, esc, asB, bl, itR, seqOf, dispR, condR, getR, slR, setS, toS, toSet, toAs, toA, callD, isOut, cmpD, ordD, binD, addD, subD, modD, negD, biD, lenD, intD, absD, max2D, min2D, tupleD, listD, idxD, lcB, TGt.slots, killS, bindT, bindTs, AV.sv, isTD, isT, tag, isTs, isNone, R.lf, lf, lf.lfs, isBo, iL_len, iL_get, retR, outF, h, q2]
  · rw [if_neg h]; simp [exs_cons, exs_nil, x_ret, e_lit, e_glo, e_loc, e_bin, e_neg, e_not, e_and, e_or, e_cmp, e_cmp2, e_ife, e_tup, e_lst, e_idx, e_sli, e_nop, e_rev, e_bi, e_met, e_call, e_newk, e_newt, e_dhas, e_dget, e_dget2, e_star, e_rg1, e_rg2, e_enm, e_zip, e_sget, e_slen, es_nil, es_cons, toD, toB, toE, toI, toDs, toX, toC, O.f, rd, rds, esc, asB, bl, itR, seqOf, dispR, condR, getR, slR, setS, toS, toSet, toAs, toA, callD, isOut, cmpD, ordD, binD, addD, subD, modD, negD, biD, lenD, intD, absD, max2D, min2D, tupleD, listD, idxD, lcB, TGt.slots, killS, bindT, bindTs, AV.sv, isTD, isT, tag, isTs, isNone, R.lf, lf, lf.lfs, isBo, iL_len, iL_get, retR, outF, h, q2]
theorem cmpNe (n k : Int) : cmpD .ne (.int n) (.int k) = some (!(n == k)) := rfl
theorem cmpEqS (a b : Str) : cmpD .eq (.str a) (.str b) = some (a == b) := rfl
theorem cmpNeS (a b : Str) : cmpD .ne (.str a) (.str b) = some (!(a == b)) := rfl
theorem lenT (ds : List D) : biD .len [.tuple ds] = some (.v (.int ds.length)) := rfl
theorem v_cmp2 {o p : COp} {a b c : CE} {sl : List SV} {ss s1 s2 s3 : SS} {x y z : D} {k k' : Bool} (ha : ev a sl ss = some (.v x, s1)) (hb : ev b sl s1 = some (.v y, s2)) (h : cmpD o x y = some k) (hc : ev c sl s2 = some (.v z, s3)) (h' : k = true → cmpD p y z = some k') (hs : s3 = s2) :
    ev (.cmp2 o p a b c) sl ss = some (bl (k && k'), s2) := by
  rw [e_cmp2, td_v ha]
  simp only [Option.bind_some]
  rw [td_v hb]
  simp only [Option.bind_some, h]
  cases k with
  | false => rfl
  | true =>
    simp only [if_true]
    rw [td_v hc]
    simp only [Option.bind_some, h' rfl, Option.map_some, hs]
    rfl
theorem tup_len {ds : List D} (h : ds.length = 2) : ∃ a y, ds = [a, y] := by
  match ds, h with
  | [a, y], _ => exact ⟨a, y, rfl⟩
theorem JF_one {row : List Int} (a : D) : JF row (.tuple [a]) = formD := by cases a <;> simp [JF]
theorem JF_long {row : List Int} {ds : List D} (h : ds.length ≠ 2) : JF row (.tuple ds) = formD := by
  match ds, h with
  | [], _ => rfl
  | [a], _ => exact JF_one a
  | [_, _], h => exact absurd rfl h
  | _ :: _ :: _ :: _, _ => simp [JF]
end K_roundswaps_k15_parkings_judged
namespace K_roundswaps_k15_parkings_judged
open PySem Pm Park
theorem lcF {row : List Int} {v : List Int} (ss : SS) (hl : row.length ≤ 900) (hv : v.length ≤ 900) :
    ev (.lc (.loc 4) (.one 4) (.idx (.loc 1) (.lit (.int 1))) [.cmp .ge (.loc 4) (.bi .len [.loc 0])]) [.v (.tuple (iL row)), .v (.tuple [.str "parking", .tuple (iL v)]), .un, .un, .un] ss = some (.fr (iL (v.filter fun z => decide ((row.length : Int) ≤ z))), ss) := by
  have hS : SL = 16777216 := rfl
  refine ev_lc_filter (l := v) (ti_of (ra := .v (.tuple (iL v))) ?_ rfl) (by omega) fun z _ => ?_
  · array_get_dec
  · by_cases h : (row.length : Int) ≤ z
    · rw [decide_eq_true h]
      apply lc_turnT; array_get_dec
    · rw [decide_eq_false h]
      apply lc_turnF; array_get_dec
theorem lcW {row v : List Int} (ss : SS) (hl : row.length ≤ 900) (he : v.length = row.length) (hb : ∀ z ∈ row, 0 ≤ z ∧ z < 900) (hv : ∀ z ∈ v, 0 ≤ z ∧ z < 900) :
    ev (.lc (.loc 3) (.one 3) (.rg1 (.bi .len [.loc 0])) [.not (.call "are_places" F_are_places [.sli (.loc 0) .nop (.bin .add (.loc 3) (.lit (.int 1))), .sli (.idx (.loc 1) (.lit (.int 1))) .nop (.bin .add (.loc 3) (.lit (.int 1)))])]) [.v (.tuple (iL row)), .v (.tuple [.str "parking", .tuple (iL v)]), .un, .un, .un] ss = some (.fr (iL (badL row v)), ss) := by
  have hS : SL = 16777216 := rfl
  refine ev_lc_filter (l := rgL row.length) (rg1_ok (n := row.length) ?_ (by omega)) (by rw [rgL_len]; omega) fun x hx => ?_
  · exact td_of (ra := .v (.int row.length)) (by array_get_dec) rfl
  · obtain ⟨k, hk, rfl⟩ := List.mem_map.mp hx
    have hk := List.mem_range.mp hk
    have e1 : ((k : Int) + 1) = ((k + 1 : Nat) : Int) := by omega
    have t1 := sli_take row (k + 1)
    have t2 := sli_take v (k + 1)
    have a1 := ap_eq (r := row.take (k + 1)) (v := v.take (k + 1)) ss (by rw [List.length_take, List.length_take, he]) (by rw [List.length_take]; omega) (fun z hz => hb z (List.mem_of_mem_take hz)) (fun z hz => hv z (List.mem_of_mem_take hz))
    rw [← e1] at t1 t2
    have e2 : ((k : Nat) : Int).toNat = k := by omega
    rw [e2]
    cases q : okL (row.take (k + 1)) (v.take (k + 1)) with
    | false =>
      rw [q] at a1
      show _ = some (some (PyData.int (k : Nat)), ss)
      apply lc_turnT; array_get_dec
    | true =>
      rw [q] at a1
      show _ = some (none, ss)
      apply lc_turnF; array_get_dec
theorem ne_lst0 (l : List Int) : cmpD .ne (.list (iL l)) (.list []) = some (!decide (l = [])) := c_nq (eq_lst0 l)
theorem istup_no {v : D} (h : ∀ ds, v ≠ .tuple ds) : biD .istuple [v] = some (bl false) := by cases v <;> first | rfl | exact absurd rfl (h _)
theorem isstr_no {v : D} (h : ∀ s, v ≠ .str s) : biD .isstr [v] = some (bl false) := by cases v <;> first | rfl | exact absurd rfl (h _)
theorem isI_no {v : D} (h : ∀ i, v ≠ .int i) : isI v = false := by cases v <;> first | rfl | exact absurd rfl (h _)
section
variable {row : List Int} {v a y : D} {ds : List D} {s : Str} {x : Int} (ss : SS)
theorem jA (h : biD .istuple [v] = some (bl false)) : F_judge_parking [.v (.tuple (iL row)), .v v] ss = some (.v formD, ss) := by
  (unfold F_judge_parking B_judge_parking; apply Pm.f_run; rfl; array_get_dec)
theorem jB (h : ¬ ((ds.length : Int) = 2)) : F_judge_parking [.v (.tuple (iL row)), .v (.tuple ds)] ss = some (.v formD, ss) := by
  (unfold F_judge_parking B_judge_parking; apply Pm.f_run; rfl; array_get_dec)
theorem jC (h : biD .isstr [a] = some (bl false)) : F_judge_parking [.v (.tuple (iL row)), .v (.tuple [a, y])] ss = some (.v formD, ss) := by
  have l2 : biD .len [.tuple [a, y]] = some (.v (.int 2)) := rfl
  (unfold F_judge_parking B_judge_parking; apply Pm.f_run; rfl; array_get_dec)
theorem jD {d : D} (hx : 0 ≤ x) (hx' : x < (row.length : Int)) (w : F_is_whole [.v (.int x)] ss = some (bl true, ss)) (j : F_judge_few [.v (.tuple (iL row)), .v (.int x)] ss = some (.v d, ss)) : F_judge_parking [.v (.tuple (iL row)), .v (.tuple [.str "few", .int x])] ss = some (.v d, ss) := by
  have l2 : biD .len [.tuple [.str "few", .int x]] = some (.v (.int 2)) := rfl
  (unfold F_judge_parking B_judge_parking; apply Pm.f_run; rfl; array_get_dec)
theorem jE (w : F_is_whole [.v y] ss = some (bl false, ss)) : F_judge_parking [.v (.tuple (iL row)), .v (.tuple [.str "few", y])] ss = some (.v formD, ss) := by
  have l2 : biD .len [.tuple [.str "few", y]] = some (.v (.int 2)) := rfl
  (unfold F_judge_parking B_judge_parking; apply Pm.f_run; rfl; array_get_dec)
theorem jG (hx : ¬ (0 ≤ x ∧ x < (row.length : Int))) (w : F_is_whole [.v (.int x)] ss = some (bl true, ss)) : F_judge_parking [.v (.tuple (iL row)), .v (.tuple [.str "few", .int x])] ss = some (.v formD, ss) := by
  have l2 : biD .len [.tuple [.str "few", .int x]] = some (.v (.int 2)) := rfl
  have c : ev (.cmp2 .le .lt (.lit (.int 0)) (.idx (.loc 1) (.lit (.int 1))) (.bi .len [.loc 0])) [.v (.tuple (iL row)), .v (.tuple [.str "few", .int x]), .un, .un, .un] ss = some (bl false, ss) := by
    by_cases h : 0 ≤ x
    · have h' : ¬ x < (row.length : Int) := fun q => hx ⟨h, q⟩
      array_get_dec
    · array_get_dec
  (unfold F_judge_parking B_judge_parking; apply Pm.f_run; rfl; array_get_dec)
theorem jM (h1 : ¬ s = "few") (h2 : ¬ s = "parking") : F_judge_parking [.v (.tuple (iL row)), .v (.tuple [.str s, y])] ss = some (.v formD, ss) := by
  have l2 : biD .len [.tuple [.str s, y]] = some (.v (.int 2)) := rfl
  (unfold F_judge_parking B_judge_parking; apply Pm.f_run; rfl; array_get_dec)
theorem jH (n : F_are_numbers [.v y] ss = some (bl false, ss)) : F_judge_parking [.v (.tuple (iL row)), .v (.tuple [.str "parking", y])] ss = some (.v formD, ss) := by
  have l2 : biD .len [.tuple [.str "parking", y]] = some (.v (.int 2)) := rfl
  (unfold F_judge_parking B_judge_parking; apply Pm.f_run; rfl; array_get_dec)
variable {l : List Int} (n : F_are_numbers [.v (.tuple (iL l))] ss = some (bl true, ss))
include n
theorem jI (hlen : ¬ (l.length : Int) = (row.length : Int)) : F_judge_parking [.v (.tuple (iL row)), .v (.tuple [.str "parking", .tuple (iL l)])] ss = some (.v formD, ss) := by
  have l2 : biD .len [.tuple [.str "parking", .tuple (iL l)]] = some (.v (.int 2)) := rfl
  (unfold F_judge_parking B_judge_parking; apply Pm.f_run; rfl; array_get_dec)
theorem jJ (hl : row.length ≤ 900) (hlen : (l.length : Int) = (row.length : Int)) (hf : (l.filter fun z => decide ((row.length : Int) ≤ z)) ≠ []) : F_judge_parking [.v (.tuple (iL row)), .v (.tuple [.str "parking", .tuple (iL l)])] ss = some (.v formD, ss) := by
  have l2 : biD .len [.tuple [.str "parking", .tuple (iL l)]] = some (.v (.int 2)) := rfl
  have f1 := lcF (row := row) (v := l) ss hl (by omega)
  have n0 := cqT (ne_lst0 (l.filter fun z => decide ((row.length : Int) ≤ z))) (by rw [decide_eq_false hf]; rfl)
  (unfold F_judge_parking B_judge_parking; apply Pm.f_run; rfl; array_get_dec)
theorem jK (hl : row.length ≤ 900) (hlen : (l.length : Int) = (row.length : Int)) (hf : (l.filter fun z => decide ((row.length : Int) ≤ z)) = []) (hb : ∀ z ∈ row, 0 ≤ z ∧ z < 900) (hv : ∀ z ∈ l, 0 ≤ z ∧ z < 900) : F_judge_parking [.v (.tuple (iL row)), .v (.tuple [.str "parking", .tuple (iL l)])] ss = some (.v (placeD (wrongK row l)), ss) := by
  have l2 : biD .len [.tuple [.str "parking", .tuple (iL l)]] = some (.v (.int 2)) := rfl
  have f1 := lcF (row := row) (v := l) ss hl (by omega)
  have n0 := cqF (ne_lst0 (l.filter fun z => decide ((row.length : Int) ≤ z))) (by rw [decide_eq_true hf]; rfl)
  have hlen2 : l.length = row.length := by omega
  have g1 := lcW (row := row) (v := l) ss hl hlen2 hb hv
  have n1 := ne_lst0 (badL row l)
  have fin : ∃ d, ev (.ife (.cmp .ne (.loc 2) (.lst [])) (.tup [(.lit (.str "place")), (.idx (.loc 2) (.lit (.int 0)))]) (.lit .none)) [.v (.tuple (iL row)), .v (.tuple [.str "parking", .tuple (iL l)]), .own (iL (badL row l)), .un, .un] ss = some (.v d, ss) ∧ d = placeD (wrongK row l) := by
    rcases badL_head (row := row) (v := l) hlen2 with ⟨e1, e2⟩ | ⟨k, r, e1, e2⟩
    · rw [e1] at n1 ⊢
      have n1 := cqF n1 rfl
      rw [e2]
      refine ⟨.none, ?_, rfl⟩
      array_get_dec
    · rw [e1] at n1 ⊢
      have n1 := cqT n1 rfl
      rw [e2]
      have i0 : idxD (.list (iL (↑k :: r))) (.int 0) = some (.int k) := by rw [iL_cons]; exact idx_0l
      refine ⟨.tuple [.str "place", .int k], ?_, rfl⟩
      array_get_dec
  obtain ⟨d, fin, rfl⟩ := fin
  (unfold F_judge_parking B_judge_parking; apply Pm.f_run; rfl; array_get_dec)
end
theorem judge_park {row : List Int} (y : D) (ss : SS) (hl : row.length ≤ 900) (hb : ∀ z ∈ row, 0 ≤ z ∧ z < 900)
    (hv : ∀ ys, y = .tuple ys → ys.length ≤ 900) : F_judge_parking [.v (.tuple (iL row)), .v (.tuple [.str "parking", y])] ss = some (.v (JF row (.tuple [.str "parking", y])), ss) := by
  have hS : SL = 16777216 := rfl
  have n := numbers_eq y ss (fun ds e => by have := hv ds e; omega)
  show _ = some (R.v (parkF row y), ss)
  by_cases q : numsB y = true
  · cases y with
    | tuple ds =>
      have ep : parkF row (.tuple ds) = if ds.length = row.length ∧ ds.all (inR row.length) = true then (match intsL ds with
        | some v => placeD (wrongK row v)
        | none => formD) else formD := rfl
      obtain ⟨l, rfl, hnn⟩ := nn_ints q
      have n := asT n q
      have hl9 := hv _ rfl
      rw [iL_len] at hl9 ep
      by_cases hlen : l.length = row.length
      · by_cases hf : (l.filter fun z => decide ((row.length : Int) ≤ z)) = []
        · have hlt : ∀ z ∈ l, z < (row.length : Int) := fun z hz => by
            have := List.filter_eq_nil_iff.mp hf z hz
            simpa using this
          have hir : (iL l).all (inR row.length) = true := by
            rw [List.all_eq_true]
            intro d hd
            obtain ⟨i, hi, rfl⟩ := List.mem_map.mp hd
            simp [inR, hnn i hi, hlt i hi]
          rw [if_pos ⟨hlen, hir⟩, show intsL (iL l) = some l from intsL_map l] at ep
          rw [ep]
          exact jK ss n hl (by omega) hf hb fun z hz => ⟨hnn z hz, by have := hlt z hz; omega⟩
        · have hir : ¬ (iL l).all (inR row.length) = true := fun h => by
            refine hf (List.filter_eq_nil_iff.mpr fun z hz => ?_)
            have := List.all_eq_true.mp h (.int z) (List.mem_map.mpr ⟨z, hz, rfl⟩)
            simp [inR] at this
            simp; omega
          rw [if_neg fun h => hir h.2] at ep
          rw [ep]
          exact jJ ss n hl (by omega) hf
      · rw [if_neg fun h => hlen h.1] at ep
        rw [ep]
        exact jI ss n (by omega)
    | _ => exact absurd q (by simp [numsB])
  · rw [Bool.not_eq_true] at q
    have e : parkF row y = formD := by
      cases y <;> try rfl
      rename_i ds
      show (if ds.length = row.length ∧ ds.all (inR row.length) = true then _ else formD) = formD
      rw [if_neg]
      rintro ⟨_, h⟩
      have : ds.all nn = true := by
        rw [List.all_eq_true] at h ⊢
        intro d hd
        have := h d hd
        cases d <;> simp [inR] at this
        simp [nn]; omega
      have q : ds.all nn = false := q
      rw [this] at q; cases q
    rw [e]
    exact jH ss (asF n q)
theorem JF_few {row : List Int} {y : D} (h : ∀ x, y = .int x → ¬ (0 ≤ x ∧ x < (row.length : Int))) : JF row (.tuple [.str "few", y]) = formD := by
  show fewF row y = _
  cases y <;> try rfl
  rename_i x
  show (if 0 ≤ x ∧ x < (row.length : Int) then (if cntL row x > x then PyData.tuple [.str "many", .int (cntL row x)] else .none) else formD) = _
  rw [if_neg (h x rfl)]
theorem JF_few2 {row : List Int} {x : Int} (h : 0 ≤ x ∧ x < (row.length : Int)) : JF row (.tuple [.str "few", .int x]) = if cntL row x > x then .tuple [.str "many", .int (cntL row x)] else .none := by
  show (if 0 ≤ x ∧ x < (row.length : Int) then (if cntL row x > x then PyData.tuple [.str "many", .int (cntL row x)] else .none) else formD) = _
  rw [if_pos h]
theorem JF_other {row : List Int} {s : Str} {y : D} (h1 : ¬ s = "few") (h2 : ¬ s = "parking") : JF row (.tuple [.str s, y]) = formD := by
  show (if s = "few" then _ else if s = "parking" then _ else _) = _
  rw [if_neg h1, if_neg h2]
theorem JF_nostr {row : List Int} {a y : D} (h : ∀ s, a ≠ .str s) : JF row (.tuple [a, y]) = formD := by
  cases a <;> first | rfl | exact absurd rfl (h _)
theorem judge_eq {row : List Int} (v : D) (ss : SS) (hl : row.length ≤ 900) (hb : ∀ z ∈ row, 0 ≤ z ∧ z < 900)
    (hv : ∀ a ys, v = .tuple [a, .tuple ys] → ys.length ≤ 900) : F_judge_parking [.v (.tuple (iL row)), .v v] ss = some (.v (JF row v), ss) := by
  by_cases ht : ∃ ds, v = .tuple ds
  · obtain ⟨ds, rfl⟩ := ht
    by_cases h2 : ds.length = 2
    · obtain ⟨a, y, rfl⟩ := tup_len h2
      have w := whole_eq y ss
      by_cases hs : ∃ s, a = .str s
      · obtain ⟨s, rfl⟩ := hs
        by_cases hf : s = "few"
        · subst hf
          by_cases hi : ∃ x, y = .int x
          · obtain ⟨x, rfl⟩ := hi
            by_cases hx : 0 ≤ x ∧ x < (row.length : Int)
            · rw [JF_few2 hx]
              exact jD ss hx.1 hx.2 (asT w rfl) (jfew_eq (x := x) ss hl)
            · rw [JF_few fun x' e => by cases e; exact hx]
              exact jG ss hx (asT w rfl)
          · rw [JF_few fun x e => absurd ⟨x, e⟩ hi]
            exact jE ss (asF w (isI_no fun i e => hi ⟨i, e⟩))
        · by_cases hp : s = "parking"
          · subst hp
            exact judge_park y ss hl hb fun ds e => hv _ ds (by rw [e])
          · rw [JF_other hf hp]
            exact jM ss hf hp
      · rw [JF_nostr fun s e => hs ⟨s, e⟩]
        exact jC ss (isstr_no fun s e => hs ⟨s, e⟩)
    · rw [JF_long h2]
      exact jB ss (by omega)
  · have e : JF row v = formD := by cases v <;> first | rfl | exact absurd ⟨_, rfl⟩ ht
    rw [e]
    exact jA ss (istup_no fun ds e => ht ⟨ds, e⟩)
end K_roundswaps_k15_parkings_judged
namespace K_roundswaps_k15_parkings_judged
open PySem Pm Park
def knownB : D → Bool
  | .str s => decide (s = "few") || decide (s = "parking")
  | _ => false
def HeadOk (a : D) : Prop := ∃ z : Str, biD .repr [a] = some (.v (.str z)) ∧ cmpD .notin (.str z) (.tuple [.str "'few'", .str "'parking'"]) = some (!knownB a)
def VOk (v : D) : Prop := ∀ a y, v = .tuple [a, y] → HeadOk a ∧ ∀ ys, y = .tuple ys → ys.length ≤ 900 ∧ ∀ d ∈ ys, okB d = true
theorem fcnt {row : List Int} {x : Int} {v m x3 x4 x5 x6 x7 : SV} (ss : SS) (hl : row.length ≤ 900) (hv : v = .v (.tuple [.str "few", .int x])) :
    ev (.lc (.lit (.int 1)) (.one 7) (.loc 0) [.cmp .le (.loc 7) (.idx (.loc 1) (.lit (.int 1)))]) [.v (.tuple (iL row)), v, m, x3, x4, x5, x6, x7] ss = some (.fr (iL ((row.filter fun z => decide (z ≤ x)).map fun _ => 1)), ss) := by
  have hS : SL = 16777216 := rfl
  subst hv
  rw [← filterMap_ite]
  refine ev_lc_ints (l := row) (ti_of (ra := .v (.tuple (iL row))) (by array_get_dec) rfl) (by omega) fun z _ => ?_
  by_cases h : z ≤ x
  · rw [decide_eq_true h]
    show _ = some (some (PyData.int 1), ss)
    apply lc_turnT; array_get_dec
  · rw [decide_eq_false h]
    show _ = some (none, ss)
    apply lc_turnF; array_get_dec
theorem flc {m : Nat} {v : D} {ys : List D} {x0 x3 x4 x5 x6 x7 : SV} (ss : SS) (hl : ys.length ≤ 900) (hv : v = .tuple [.str "parking", .tuple ys]) :
    ev (.lc (.loc 7) (.one 7) (.idx (.loc 1) (.lit (.int 1))) [.or (.not (.call "_law_is_int" F__law_is_int [.loc 7])) (.not (.cmp2 .le .lt (.lit (.int 0)) (.loc 7) (.loc 2)))]) [x0, .v v, .v (.int m), x3, x4, x5, x6, x7] ss = some (.fr (ys.filter fun d => !inR m d), ss) := by
  have hS : SL = 16777216 := rfl
  subst hv
  have h0 := ev_lc_pure (elt := .loc 7) (tg := .one 7) (it := .idx (.loc 1) (.lit (.int 1))) (cond := [.or (.not (.call "_law_is_int" F__law_is_int [.loc 7])) (.not (.cmp2 .le .lt (.lit (.int 0)) (.loc 7) (.loc 2)))]) (sl := [x0, .v (.tuple [.str "parking", .tuple ys]), .v (.int m), x3, x4, x5, x6, x7]) (ss := ss) (ds := ys) (g := fun d => if !inR m d then some d else none)
    (ti_of (ra := .v (.tuple ys)) (by array_get_dec) rfl) (by omega) fun d hd => by
      have w := lint_eq d ss
      cases d with
      | int i =>
        have w := asT w rfl
        show _ = some (if !decide (0 ≤ i ∧ i < (m : Int)) then some (PyData.int i) else none, ss)
        by_cases q : 0 ≤ i
        · by_cases q' : i < (m : Int)
          · rw [decide_eq_true ⟨q, q'⟩]
            show _ = some (none, ss)
            apply lc_turnF; array_get_dec
          · rw [decide_eq_false fun h => q' h.2]
            show _ = some (some (PyData.int i), ss)
            apply lc_turnT; array_get_dec
        · rw [decide_eq_false fun h => q h.1]
          show _ = some (some (PyData.int i), ss)
          apply lc_turnT; array_get_dec
      | _ =>
        have w := asF w rfl
        show _ = some (some _, ss)
        apply lc_turnT; array_get_dec
  rw [h0]
  congr 3
  rw [← List.filterMap_eq_filter]
  rfl
theorem fwhl {T : List Int} {a : Int} {x0 x1 x2 x3 x4 x7 : SV} (ss : SS) (hT : T.length ≤ 1000) :
    ex (.whl (.cmp .isin (.loc 6) (.loc 5)) [.set 6 (.bin .add (.loc 6) (.lit (.int 1)))]) [x0, x1, x2, x3, x4, .v (.tuple (iL T)), .v (.int a), x7] ss = some (.nx [x0, x1, x2, x3, x4, .v (.tuple (iL T)), .v (.int (linF T a)), x7] ss) := by
  obtain ⟨h1, h2, h3⟩ := linF_lin T a
  have hle := linF_le T a
  have key := whD_run (c := fun sl ss => toB (ev (.cmp .isin (.loc 6) (.loc 5)) sl ss)) (f := fun sl ss => exs [.set 6 (.bin .add (.loc 6) (.lit (.int 1)))] sl ss)
      (S := fun i => [x0, x1, x2, x3, x4, .v (.tuple (iL T)), .v (.int (a + i)), x7]) (ss := ss) (linF T a - a).toNat 0 FUEL (by show _ < 100000; omega) (fun i _ hi => ⟨?_, ?_⟩) ?_
  · have e0 : a + ((0 : Nat) : Int) = a := by omega
    have e1 : a + ((0 + (linF T a - a).toNat : Nat) : Int) = linF T a := by omega
    simp only [e0, e1] at key
    rw [x_whl]
    exact key
  · have hin := h3 (a + i) (by omega) (by omega)
    have c : cmpD .isin (.int (a + i)) (.tuple (iL T)) = some true := (in_tup (a + i) T).trans (by rw [decide_eq_true hin])
    refine tb_of (ra := bl true) ?_ rfl
    array_get_dec
  · have e1 : a + ((i + 1 : Nat) : Int) = a + (i : Int) + 1 := by omega
    show exs _ _ ss = some (.nx [x0, x1, x2, x3, x4, .v (.tuple (iL T)), .v (.int (a + ((i + 1 : Nat) : Int))), x7] ss)
    rw [e1]
    array_get_dec
  · have e1 : a + ((0 + (linF T a - a).toNat : Nat) : Int) = linF T a := by omega
    simp only [e1]
    have c : cmpD .isin (.int (linF T a)) (.tuple (iL T)) = some false := (in_tup _ T).trans (by rw [decide_eq_false h2])
    refine tb_of (ra := bl false) ?_ rfl
    array_get_dec
def fBody : List CS := [.set 5 (.sli (.idx (.loc 1) (.lit (.int 1))) .nop (.loc 3)), .set 6 (.idx (.loc 0) (.loc 3)), .whl (.cmp .isin (.loc 6) (.loc 5)) [.set 6 (.bin .add (.loc 6) (.lit (.int 1)))], .ite (.cmp .ne (.idx (.idx (.loc 1) (.lit (.int 1))) (.loc 3)) (.loc 6)) [.ret (.tup [(.lit (.str "place")), (.loc 3)])] []]
theorem fturn {row l : List Int} {k : Nat} {x4 x5 x6 x7 m : SV} (ss : SS) (hk : k < row.length) (hk' : k < l.length) (hl : l.length ≤ 900) :
    exs fBody [.v (.tuple (iL row)), .v (.tuple [.str "parking", .tuple (iL l)]), m, .v (.int k), x4, x5, x6, x7] ss = if okAt row l k then some (.nx [.v (.tuple (iL row)), .v (.tuple [.str "parking", .tuple (iL l)]), m, .v (.int k), x4, .v (.tuple (iL (l.take k))), .v (.int (linF (l.take k) (row.getD k 0))), x7] ss) else some (.rt (.v (.tuple [.str "place", .int k])) ss) := by
  have i1 := idx_tup row k hk
  have i2 := idx_tup l k hk'
  have t1 := sli_take l k
  have w := fwhl (T := l.take k) (a := row.getD k 0) (x0 := .v (.tuple (iL row))) (x1 := .v (.tuple [.str "parking", .tuple (iL l)])) (x2 := m) (x3 := .v (.int k)) (x4 := x4) (x7 := x7) ss (by rw [List.length_take]; omega)
  unfold okAt
  by_cases c : l.getD k 0 = linF (l.take k) (row.getD k 0)
  · rw [decide_eq_true c, if_pos rfl]
    unfold fBody
    array_get_dec
  · rw [decide_eq_false c, if_neg (by simp)]
    unfold fBody
    array_get_dec
def fP (row l : List Int) : D → Bool
  | .int k => okAt row l k.toNat
  | _ => true
theorem ffor {row l : List Int} {x3 x4 x5 x6 x7 : SV} (ss : SS) (he : l.length = row.length) (hl : l.length ≤ 900) :
    ∃ sl', exs [.forr (.one 3) (.rg1 (.loc 2)) fBody, .ret (.lit .none)] [.v (.tuple (iL row)), .v (.tuple [.str "parking", .tuple (iL l)]), .v (.int row.length), x3, x4, x5, x6, x7] ss = some (.rt (.v (placeD (wrongK row l))) sl') ∧ sl' = ss := by
  have hS : SL = 16777216 := rfl
  have it := rg1_ok (e := .loc 2) (sl := [.v (.tuple (iL row)), .v (.tuple [.str "parking", .tuple (iL l)]), .v (.int row.length), x3, x4, x5, x6, x7]) (ss := ss) (ss' := ss) (n := row.length) (td_of (ra := .v (.int row.length)) (by array_get_dec) rfl) (by omega)
  have fr := x_for (t := .one 3) (it := .rg1 (.loc 2)) (body := fBody) (is := []) rfl it (fun i hi => by cases hi)
  have sc := forD_scan (f := fun d sl' ss' => (bindT (.one 3) d sl').bind fun sl' => exs fBody sl' ss') (I := fun sl => ∃ y3 y5 y6, sl = [.v (.tuple (iL row)), .v (.tuple [.str "parking", .tuple (iL l)]), .v (.int row.length), y3, x4, y5, y6, x7]) (p := fP row l) (r := fun d => .v (.tuple [.str "place", d])) (ss := ss) (iL (rgL row.length)) [.v (.tuple (iL row)), .v (.tuple [.str "parking", .tuple (iL l)]), .v (.int row.length), x3, x4, x5, x6, x7] ⟨_, _, _, rfl⟩ (fun d hd sl hI => by
    obtain ⟨i, hi, rfl⟩ := List.mem_map.mp hd
    obtain ⟨k, hk, rfl⟩ := List.mem_map.mp hi
    have hk := List.mem_range.mp hk
    obtain ⟨y3, y5, y6, rfl⟩ := hI
    have e4 : bindT (.one 3) (.int k) [.v (.tuple (iL row)), .v (.tuple [.str "parking", .tuple (iL l)]), .v (.int row.length), y3, x4, y5, y6, x7] = some [.v (.tuple (iL row)), .v (.tuple [.str "parking", .tuple (iL l)]), .v (.int row.length), .v (.int k), x4, y5, y6, x7] := by simp [bindT, setS]
    have key := fturn (row := row) (l := l) (k := k) (m := .v (.int row.length)) (x4 := x4) (x5 := y5) (x6 := y6) (x7 := x7) ss hk (by omega) hl
    have ep : fP row l (.int k) = okAt row l k := rfl
    simp only [e4, Option.bind_some, key, ep]
    constructor
    · intro q; rw [if_pos q]; exact ⟨_, rfl, _, _, _, rfl⟩
    · intro q; rw [if_neg (by rw [q]; exact Bool.false_ne_true)])
  refine ⟨ss, ?_, rfl⟩
  have hfind : (iL (rgL row.length)).find? (fun d => !fP row l d) = (wrongK row l).map fun (k : Nat) => (.int k : D) := by
    unfold iL rgL wrongK
    rw [List.find?_map, List.find?_map, Option.map_map]
    rfl
  rw [hfind] at sc
  cases q : wrongK row l with
  | none =>
    rw [q] at sc
    obtain ⟨sl', e, _⟩ := sc
    rw [exs_nx (fr.trans e)]
    rfl
  | some k =>
    rw [q] at sc
    rw [exs_rt (fr.trans sc)]
    rfl
theorem lg_inR {ys : List D} {m : Nat} (h : ∀ d ∈ ys, okB d = true) : cmpD .ne (.list (ys.filter fun d => !inR m d)) (.list []) = some (!ys.all (inR m)) := by
  have h0 : cmpD .eq (.list (ys.filter fun d => !inR m d)) (.list []) = some (decide ((ys.filter fun d => !inR m d) = [])) := eq_nil (xs := ys.filter fun d => !inR m d) fun x hx => h x (List.mem_filter.mp hx).1
  refine (c_nq h0).trans ?_
  congr 2
  rw [Bool.eq_iff_iff, decide_eq_true_eq, List.filter_eq_nil_iff, List.all_eq_true]
  constructor
  · intro h x hx; have := h x hx; simpa using this
  · intro h x hx; simp [h x hx]
section
variable {row : List Int} {v a y : D} {ds : List D} {s z : Str} {x : Int} (ss : SS)
theorem fA (h : biD .istuple [v] = some (bl false)) : F__law_fault [.v (.tuple (iL row)), .v v] ss = some (.v formD, ss) := by
  (unfold F__law_fault B__law_fault; apply Pm.f_run; rfl; array_get_dec)
theorem fB (h : ¬ ((ds.length : Int) = 2)) : F__law_fault [.v (.tuple (iL row)), .v (.tuple ds)] ss = some (.v formD, ss) := by
  have lds : biD .len [.tuple ds] = some (.v (.int ds.length)) := rfl
  (unfold F__law_fault B__law_fault; apply Pm.f_run; rfl; array_get_dec)
theorem fC (hz : biD .repr [a] = some (.v (.str z))) (hz' : cmpD .notin (.str z) (.tuple [.str "'few'", .str "'parking'"]) = some true) : F__law_fault [.v (.tuple (iL row)), .v (.tuple [a, y])] ss = some (.v formD, ss) := by
  have l2 : biD .len [.tuple [a, y]] = some (.v (.int 2)) := rfl
  (unfold F__law_fault B__law_fault; apply Pm.f_run; rfl; array_get_dec)
section
variable (hz : biD .repr [.str "few"] = some (.v (.str z))) (hz' : cmpD .notin (.str z) (.tuple [.str "'few'", .str "'parking'"]) = some false)
include hz hz'
theorem fD (hl : row.length ≤ 900) (hx : 0 ≤ x) (hx' : x < (row.length : Int)) (w : F__law_is_int [.v (.int x)] ss = some (bl true, ss)) : F__law_fault [.v (.tuple (iL row)), .v (.tuple [.str "few", .int x])] ss = some (.v (if cntL row x > x then .tuple [.str "many", .int (cntL row x)] else .none), ss) := by
  have l2 : biD .len [.tuple [.str "few", .int x]] = some (.v (.int 2)) := rfl
  have c1 := fcnt (row := row) (x := x) (v := .v (.tuple [.str "few", .int x])) (m := .v (.int row.length)) (x3 := .un) (x4 := .un) (x5 := .un) (x6 := .un) (x7 := .un) ss hl rfl
  have c2 : biD .len [.list (iL ((row.filter fun z => decide (z ≤ x)).map fun _ => 1))] = some (.v (.int (cntL row x))) := by
    rw [len_iLl, List.length_map]; rfl
  have fin : ∃ d, ev (.ife (.cmp .gt (.loc 4) (.idx (.loc 1) (.lit (.int 1)))) (.tup [(.lit (.str "many")), (.loc 4)]) (.lit .none)) [.v (.tuple (iL row)), .v (.tuple [.str "few", .int x]), .v (.int row.length), .un, .v (.int (cntL row x)), .un, .un, .un] ss = some (.v d, ss) ∧ d = if cntL row x > x then .tuple [.str "many", .int (cntL row x)] else .none := by
    by_cases hc : cntL row x > x
    · rw [if_pos hc]
      refine ⟨.tuple [.str "many", .int (cntL row x)], ?_, rfl⟩
      array_get_dec
    · rw [if_neg hc]
      refine ⟨.none, ?_, rfl⟩
      array_get_dec
  obtain ⟨d, fin, rfl⟩ := fin
  (unfold F__law_fault B__law_fault; apply Pm.f_run; rfl; array_get_dec)
theorem fE (w : F__law_is_int [.v y] ss = some (bl false, ss)) : F__law_fault [.v (.tuple (iL row)), .v (.tuple [.str "few", y])] ss = some (.v formD, ss) := by
  have l2 : biD .len [.tuple [.str "few", y]] = some (.v (.int 2)) := rfl
  (unfold F__law_fault B__law_fault; apply Pm.f_run; rfl; array_get_dec)
theorem fG (hx : ¬ (0 ≤ x ∧ x < (row.length : Int))) (w : F__law_is_int [.v (.int x)] ss = some (bl true, ss)) : F__law_fault [.v (.tuple (iL row)), .v (.tuple [.str "few", .int x])] ss = some (.v formD, ss) := by
  have l2 : biD .len [.tuple [.str "few", .int x]] = some (.v (.int 2)) := rfl
  have c : ev (.cmp2 .le .lt (.lit (.int 0)) (.idx (.loc 1) (.lit (.int 1))) (.loc 2)) [.v (.tuple (iL row)), .v (.tuple [.str "few", .int x]), .v (.int row.length), .un, .un, .un, .un, .un] ss = some (bl false, ss) := by
    by_cases h : 0 ≤ x
    · have h' : ¬ x < (row.length : Int) := fun q => hx ⟨h, q⟩
      array_get_dec
    · array_get_dec
  (unfold F__law_fault B__law_fault; apply Pm.f_run; rfl; array_get_dec)
end
variable (hz : biD .repr [.str "parking"] = some (.v (.str z))) (hz' : cmpD .notin (.str z) (.tuple [.str "'few'", .str "'parking'"]) = some false)
include hz hz'
theorem fH (h : biD .istuple [y] = some (bl false)) : F__law_fault [.v (.tuple (iL row)), .v (.tuple [.str "parking", y])] ss = some (.v formD, ss) := by
  have l2 : biD .len [.tuple [.str "parking", y]] = some (.v (.int 2)) := rfl
  (unfold F__law_fault B__law_fault; apply Pm.f_run; rfl; array_get_dec)
theorem fI (hlen : ¬ (ds.length : Int) = (row.length : Int)) : F__law_fault [.v (.tuple (iL row)), .v (.tuple [.str "parking", .tuple ds])] ss = some (.v formD, ss) := by
  have l2 : biD .len [.tuple [.str "parking", .tuple ds]] = some (.v (.int 2)) := rfl
  have lds : biD .len [.tuple ds] = some (.v (.int ds.length)) := rfl
  (unfold F__law_fault B__law_fault; apply Pm.f_run; rfl; array_get_dec)
theorem fJ (hlen : (ds.length : Int) = (row.length : Int)) (h9 : ds.length ≤ 900) (n0 : cmpD .ne (.list (ds.filter fun d => !inR row.length d)) (.list []) = some true) : F__law_fault [.v (.tuple (iL row)), .v (.tuple [.str "parking", .tuple ds])] ss = some (.v formD, ss) := by
  have l2 : biD .len [.tuple [.str "parking", .tuple ds]] = some (.v (.int 2)) := rfl
  have lds : biD .len [.tuple ds] = some (.v (.int ds.length)) := rfl
  have f1 := flc (m := row.length) (v := .tuple [.str "parking", .tuple ds]) (ys := ds) (x0 := .v (.tuple (iL row))) (x3 := .un) (x4 := .un) (x5 := .un) (x6 := .un) (x7 := .un) ss h9 rfl
  (unfold F__law_fault B__law_fault; apply Pm.f_run; rfl; array_get_dec)
theorem fK {l : List Int} (hlen : l.length = row.length) (h9 : l.length ≤ 900) (n0 : cmpD .ne (.list ((iL l).filter fun d => !inR row.length d)) (.list []) = some false) : F__law_fault [.v (.tuple (iL row)), .v (.tuple [.str "parking", .tuple (iL l)])] ss = some (.v (placeD (wrongK row l)), ss) := by
  have l2 : biD .len [.tuple [.str "parking", .tuple (iL l)]] = some (.v (.int 2)) := rfl
  have hlen' : (l.length : Int) = (row.length : Int) := by omega
  have f1 := flc (m := row.length) (v := .tuple [.str "parking", .tuple (iL l)]) (ys := iL l) (x0 := .v (.tuple (iL row))) (x3 := .un) (x4 := .un) (x5 := .un) (x6 := .un) (x7 := .un) ss (by rw [iL_len]; exact h9) rfl
  obtain ⟨_, fin, rfl⟩ := ffor (row := row) (l := l) (x3 := .un) (x4 := .un) (x5 := .un) (x6 := .un) (x7 := .un) ss hlen h9
  unfold fBody at fin
  (unfold F__law_fault B__law_fault; apply Pm.f_run; rfl; array_get_dec)
end
theorem fault_park {row : List Int} (y : D) (ss : SS) (hl : row.length ≤ 900) (hb : ∀ z ∈ row, 0 ≤ z ∧ z < 900)
    (hh : HeadOk (.str "parking")) (hv : ∀ ys, y = .tuple ys → ys.length ≤ 900 ∧ ∀ d ∈ ys, okB d = true) : F__law_fault [.v (.tuple (iL row)), .v (.tuple [.str "parking", y])] ss = some (.v (JF row (.tuple [.str "parking", y])), ss) := by
  obtain ⟨z, hz, hz'⟩ := hh
  have hz' := cqF hz' rfl
  show _ = some (R.v (parkF row y), ss)
  by_cases ht : ∃ ds, y = .tuple ds
  · obtain ⟨ds, rfl⟩ := ht
    obtain ⟨h9, hok⟩ := hv _ rfl
    have ep : parkF row (.tuple ds) = if ds.length = row.length ∧ ds.all (inR row.length) = true then (match intsL ds with
      | some v => placeD (wrongK row v)
      | none => formD) else formD := rfl
    by_cases hlen : ds.length = row.length
    · have n0 := lg_inR (m := row.length) hok
      by_cases hir : ds.all (inR row.length) = true
      · rw [hir] at n0
        obtain ⟨l, rfl, hb'⟩ := inR_ints hir
        rw [if_pos ⟨hlen, hir⟩, show intsL (iL l) = some l from intsL_map l] at ep
        rw [ep]
        rw [iL_len] at hlen h9
        exact fK ss hz hz' hlen h9 (cqF n0 rfl)
      · rw [if_neg fun h => hir h.2] at ep
        rw [ep]
        rw [Bool.not_eq_true] at hir
        rw [hir] at n0
        exact fJ ss hz hz' (by omega) h9 (cqT n0 rfl)
    · rw [if_neg fun h => hlen h.1] at ep
      rw [ep]
      exact fI ss hz hz' (by omega)
  · have e : parkF row y = formD := by cases y <;> first | rfl | exact absurd ⟨_, rfl⟩ ht
    rw [e]
    exact fH ss hz hz' (istup_no fun ds e => ht ⟨ds, e⟩)
theorem fault_eq {row : List Int} (v : D) (ss : SS) (hl : row.length ≤ 900) (hb : ∀ z ∈ row, 0 ≤ z ∧ z < 900) (hv : VOk v) : F__law_fault [.v (.tuple (iL row)), .v v] ss = some (.v (JF row v), ss) := by
  by_cases ht : ∃ ds, v = .tuple ds
  · obtain ⟨ds, rfl⟩ := ht
    by_cases h2 : ds.length = 2
    · obtain ⟨a, y, rfl⟩ := tup_len h2
      obtain ⟨hh, hy9⟩ := hv a y rfl
      have w := lint_eq y ss
      by_cases hf : a = .str "few"
      · subst hf
        obtain ⟨z, hz, hz'⟩ := hh
        have hz' := cqF hz' rfl
        by_cases hi : ∃ x, y = .int x
        · obtain ⟨x, rfl⟩ := hi
          by_cases hx : 0 ≤ x ∧ x < (row.length : Int)
          · rw [JF_few2 hx]
            exact fD ss hz hz' hl hx.1 hx.2 (asT w rfl)
          · rw [JF_few fun x' e => by cases e; exact hx]
            exact fG ss hz hz' hx (asT w rfl)
        · rw [JF_few fun x e => absurd ⟨x, e⟩ hi]
          exact fE ss hz hz' (asF w (isI_no fun i e => hi ⟨i, e⟩))
      · by_cases hp : a = .str "parking"
        · subst hp
          exact fault_park y ss hl hb hh hy9
        · obtain ⟨z, hz, hz'⟩ := hh
          have e : knownB a = false := by
            cases a <;> try rfl
            rename_i s
            have h1 : ¬ s = "few" := fun h => hf (by rw [h])
            have h2 : ¬ s = "parking" := fun h => hp (by rw [h])
            simp [knownB, h1, h2]
          rw [e] at hz'
          have e : JF row (.tuple [a, y]) = formD := by
            cases a <;> try rfl
            rename_i s
            exact JF_other (fun h => hf (by rw [h])) (fun h => hp (by rw [h]))
          rw [e]
          exact fC ss hz (cqT hz' rfl)
    · rw [JF_long h2]
      exact fB ss (by omega)
  · have e : JF row v = formD := by cases v <;> first | rfl | exact absurd ⟨_, rfl⟩ ht
    rw [e]
    exact fA ss (istup_no fun ds e => ht ⟨ds, e⟩)
end K_roundswaps_k15_parkings_judged
namespace K_roundswaps_k15_parkings_judged
open PySem Pm Park
def headS (row : List Int) : Str := match fewL row with
  | [] => "parking"
  | _ => "few"
theorem mem_places_ge (row : List Int) (h0 : ∀ z ∈ row, 0 ≤ z) : ∀ z ∈ places row, 0 ≤ z := by
  intro z hz
  obtain ⟨k, hk, rfl⟩ := List.getElem_of_mem hz
  rw [places_len] at hk
  obtain ⟨f, e1, e2⟩ := places_at row k hk
  have := (linF_lin ((places row).take k) row[k]).1
  have h1 := h0 _ (List.getElem_mem hk)
  rw [List.getElem?_eq_getElem (by rw [places_len]; exact hk)] at e1
  cases e1
  omega
theorem mem_places_lt (row : List Int) (m : Nat) (h0 : ∀ z ∈ row, z < (m : Int)) : ∀ z ∈ places row, z < (m : Int) + row.length := by
  intro z hz
  obtain ⟨k, hk, rfl⟩ := List.getElem_of_mem hz
  rw [places_len] at hk
  obtain ⟨f, e1, e2⟩ := places_at row k hk
  have := linF_le ((places row).take k) row[k]
  have h1 := h0 _ (List.getElem_mem hk)
  rw [List.getElem?_eq_getElem (by rw [places_len]; exact hk)] at e1
  cases e1
  have : ((places row).take k).length ≤ k := by rw [List.length_take]; omega
  omega
/-- what is right has the word of the row -/
theorem JF_none {row : List Int} {v : D} (h : JF row v = .none) : ∃ y, v = .tuple [.str (headS row), y] := by
  unfold JF at h
  split at h
  · rename_i s y
    by_cases h1 : s = "few"
    · rw [if_pos h1] at h
      refine ⟨y, ?_⟩
      subst h1
      have : headS row = "few" := by
        cases y with
        | int x =>
          have h : (if 0 ≤ x ∧ x < (row.length : Int) then (if cntL row x > x then PyData.tuple [.str "many", .int (cntL row x)] else .none) else formD) = .none := h
          by_cases hx : 0 ≤ x ∧ x < (row.length : Int)
          · rw [if_pos hx] at h
            by_cases hc : cntL row x > x
            · rw [if_pos hc] at h; cases h
            · unfold headS
              have hm : x ∈ fewL row := by
                unfold fewL
                rw [List.mem_filter]
                refine ⟨List.mem_map.mpr ⟨x.toNat, List.mem_range.mpr (by omega), by omega⟩, ?_⟩
                unfold cntL at hc
                simp only [decide_eq_true_eq]
                omega
              cases e : fewL row with
              | nil => rw [e] at hm; cases hm
              | cons _ _ => rfl
          · rw [if_neg hx] at h; cases h
        | _ => cases h
      rw [this]
    · rw [if_neg h1] at h
      by_cases h2 : s = "parking"
      · rw [if_pos h2] at h
        refine ⟨y, ?_⟩
        subst h2
        have : headS row = "parking" := by
          cases y with
          | tuple ds =>
            have ep : (if ds.length = row.length ∧ ds.all (inR row.length) = true then (match intsL ds with
              | some v => placeD (wrongK row v)
              | none => formD) else formD) = .none := h
            by_cases hc : ds.length = row.length ∧ ds.all (inR row.length) = true
            · rw [if_pos hc] at ep
              obtain ⟨l, rfl, hb⟩ := inR_ints hc.2
              rw [show intsL (iL l) = some l from intsL_map l] at ep
              have ep : placeD (wrongK row l) = .none := ep
              have hw : wrongK row l = none := by
                cases q : wrongK row l with
                | none => rfl
                | some k => rw [q] at ep; cases ep
              have hl : l.length = row.length := by have := hc.1; rwa [iL_len] at this
              have := right_park ((wrong_right hl).mp hw) hb
              unfold headS
              rw [(few_park row).mpr this]
            · rw [if_neg hc] at ep; cases ep
          | _ => cases h
        rw [this]
      · rw [if_neg h2] at h; cases h
  · cases h
theorem told_head (row : List Int) : ∃ y, toldD row = .tuple [.str (headS row), y] ∧ ((fewL row = [] ∧ y = .tuple (iL (places row))) ∨ ∃ x, y = .int x ∧ 0 ≤ x ∧ x < (row.length : Int) ∧ fewL row ≠ []) := by
  unfold toldD headS
  cases e : fewL row with
  | nil => exact ⟨_, rfl, .inl ⟨rfl, rfl⟩⟩
  | cons x r =>
    refine ⟨_, rfl, .inr ⟨x, rfl, ?_⟩⟩
    have hm : x ∈ fewL row := by rw [e]; exact List.mem_cons_self
    have := (List.mem_filter.mp hm).1
    obtain ⟨k, hk, rfl⟩ := List.mem_map.mp this
    have := List.mem_range.mp hk
    exact ⟨by omega, by omega, by simp⟩
theorem JF_told {row : List Int} (h0 : ∀ z ∈ row, 0 ≤ z) : JF row (toldD row) = .none := by
  unfold toldD
  cases e : fewL row with
  | nil =>
    have hp := (few_park row).mp e
    have hb := park_places h0 hp
    show parkF row (.tuple (iL (places row))) = .none
    show (if (iL (places row)).length = row.length ∧ (iL (places row)).all (inR row.length) = true then (match intsL (iL (places row)) with
              | some v => placeD (wrongK row v)
              | none => formD) else formD) = .none
    rw [if_pos, show intsL (iL (places row)) = some (places row) from intsL_map _]
    · show placeD (wrongK row (places row)) = .none
      rw [(wrong_right (places_len row)).mpr (right_places row)]
      rfl
    · refine ⟨by rw [iL_len, places_len], ?_⟩
      rw [List.all_eq_true]
      intro d hd
      obtain ⟨i, hi, rfl⟩ := List.mem_map.mp hd
      have := hb i hi
      simp [inR, this]
  | cons x r =>
    have hm : x ∈ fewL row := by rw [e]; exact List.mem_cons_self
    have hm := List.mem_filter.mp hm
    obtain ⟨k, hk, rfl⟩ := List.mem_map.mp hm.1
    have hk := List.mem_range.mp hk
    have h2 := hm.2
    simp only [decide_eq_true_eq] at h2
    show (if 0 ≤ (k : Int) ∧ (k : Int) < (row.length : Int) then (if cntL row k > k then PyData.tuple [.str "many", .int (cntL row k)] else .none) else formD) = .none
    rw [if_pos ⟨by omega, by omega⟩, if_neg]
    unfold cntL
    omega
theorem RB_form : RB 1 200 formD := RB_of (by decide +kernel)
theorem RB_none : RB 0 31 .none := RB_of (by decide +kernel)
theorem RB_pair {k w : Nat} {a b : D} (h1 : RB k w a) (h2 : RB k w b) : RB (k + 1) (2 * w + 4) (.tuple [a, b]) := by
  have := RB_tup (k := k) (w := w) (ds := [a, b]) fun d hd => by
    rcases List.mem_cons.mp hd with rfl | hd
    · exact h1
    · rw [List.mem_singleton] at hd; subst hd; exact h2
  exact this.mono (Nat.le_refl _) (by simp only [List.length_cons, List.length_nil]; omega)
theorem wrong_lt {row l : List Int} {k : Nat} (h : wrongK row l = some k) : k < row.length := by
  unfold wrongK at h
  have := List.mem_of_find?_eq_some h
  exact List.mem_range.mp this
theorem RB_JF {row : List Int} (hl : row.length ≤ 900) (v : D) : RB 1 300 (JF row v) := by
  have f : RB 1 300 formD := RB_form.mono (by omega) (by omega)
  have hS : ∀ n : Nat, n ≤ 900 → RB 1 300 (.tuple [.str "many", .int n]) := fun n hn => by
    have := RB_pair (k := 0) (w := 100) (a := .str "many") (b := .int n) (RB_of (by decide +kernel)) ((RB_int (by omega)).mono (by omega) (by omega))
    exact this.mono (by omega) (by omega)
  have hP : ∀ n : Nat, n ≤ 900 → RB 1 300 (.tuple [.str "place", .int n]) := fun n hn => by
    have := RB_pair (k := 0) (w := 100) (a := .str "place") (b := .int n) (RB_of (by decide +kernel)) ((RB_int (by omega)).mono (by omega) (by omega))
    exact this.mono (by omega) (by omega)
  have hN : RB 1 300 .none := RB_none.mono (by omega) (by omega)
  unfold JF
  split
  · rename_i s y
    split
    · unfold fewF
      split
      · split
        · split
          · unfold cntL
            exact hS _ (Nat.le_trans (List.length_filter_le _ _) hl)
          · exact hN
        · exact f
      · exact f
    · split
      · unfold parkF
        split
        · split
          · split
            · rename_i l _
              cases q : wrongK row l with
              | none => exact hN
              | some k => exact hP k (by have := wrong_lt q; omega)
            · exact f
          · exact f
        · exact f
      · exact f
  · exact f
/-! ### the odd ones -/
def OddOk (o : D) : Prop := RB 1 100 o ∧ okB o = true ∧ HeadOk o ∧ ∀ ys, o = .tuple ys → ys.length ≤ 900 ∧ ∀ d ∈ ys, okB d = true
theorem head_of {k w : Nat} {a : D} (h : RB k w a) (hk : k ≤ 64) (hw : w ≤ 1048576) (hc : cmpD .notin (.str a.shown) (.tuple [.str "'few'", .str "'parking'"]) = some (!knownB a)) : HeadOk a := ⟨a.shown, h.repr hk hw, hc⟩
theorem odd_of {a : D} (h : (a.showable && a.leavesShort 13 && decide (a.depth ≤ 1) && decide (a.weight ≤ 100)) = true) (ho : okB a = true) (hc : cmpD .notin (.str a.shown) (.tuple [.str "'few'", .str "'parking'"]) = some (!knownB a)) (ht : ∀ ys, a = .tuple ys → ys.length ≤ 900 ∧ ∀ d ∈ ys, okB d = true) : OddOk a :=
  ⟨RB_of h, ho, head_of (RB_of h) (by omega) (by omega) hc, ht⟩
theorem odd_int {m : Int} (h : 0 ≤ m ∧ m < 13) : OddOk (.int m) := by
  have : m = 0 ∨ m = 1 ∨ m = 2 ∨ m = 3 ∨ m = 4 ∨ m = 5 ∨ m = 6 ∨ m = 7 ∨ m = 8 ∨ m = 9 ∨ m = 10 ∨ m = 11 ∨ m = 12 := by omega
  rcases this with rfl | rfl | rfl | rfl | rfl | rfl | rfl | rfl | rfl | rfl | rfl | rfl | rfl <;> exact odd_of (by decide +kernel) (by decide +kernel) (by decide +kernel) (fun ys e => by cases e)
def oddL (m : Int) : List D := [.none, .bool true, .int (-1), .int m, .str "0", .tuple [.int 0], .list [.int 0], .int 0, .int 1, .int 1000000000]
theorem odd_ok {m : Int} (h : 0 ≤ m ∧ m < 13) : ∀ o ∈ oddL m, OddOk o := by
  intro o ho
  unfold oddL at ho
  simp only [List.mem_cons, List.not_mem_nil, or_false] at ho
  rcases ho with rfl | rfl | rfl | rfl | rfl | rfl | rfl | rfl | rfl | rfl
  · exact odd_of (by decide +kernel) (by decide +kernel) (by decide +kernel) (fun ys e => by cases e)
  · exact odd_of (by decide +kernel) (by decide +kernel) (by decide +kernel) (fun ys e => by cases e)
  · exact odd_of (by decide +kernel) (by decide +kernel) (by decide +kernel) (fun ys e => by cases e)
  · exact odd_int h
  · exact odd_of (by decide +kernel) (by decide +kernel) (by decide +kernel) (fun ys e => by cases e)
  · exact odd_of (by decide +kernel) (by decide +kernel) (by decide +kernel) (fun ys e => by cases e; exact ⟨by simp, by decide +kernel⟩)
  · exact odd_of (by decide +kernel) (by decide +kernel) (by decide +kernel) (fun ys e => by cases e)
  · exact odd_of (by decide +kernel) (by decide +kernel) (by decide +kernel) (fun ys e => by cases e)
  · exact odd_of (by decide +kernel) (by decide +kernel) (by decide +kernel) (fun ys e => by cases e)
  · exact odd_of (by decide +kernel) (by decide +kernel) (by decide +kernel) (fun ys e => by cases e)
/-! ### values that are judged -/
def Val (v : D) : Prop := RB 4 70000 v ∧ VOk v
theorem okB_int (i : Int) : okB (.int i) = true := rfl
theorem okB_ints (l : List Int) : ∀ d ∈ iL l, okB d = true := by
  intro d hd
  obtain ⟨i, _, rfl⟩ := List.mem_map.mp hd
  rfl
theorem head_few : HeadOk (.str "few") := (odd_of (by decide +kernel) (by decide +kernel) (by decide +kernel) (fun ys e => by cases e)).2.2.1
theorem head_parking : HeadOk (.str "parking") := (odd_of (by decide +kernel) (by decide +kernel) (by decide +kernel) (fun ys e => by cases e)).2.2.1
theorem head_Few : HeadOk (.str "Few") := (odd_of (by decide +kernel) (by decide +kernel) (by decide +kernel) (fun ys e => by cases e)).2.2.1
theorem RB_few : RB 0 100 (.str "few") := RB_of (by decide +kernel)
theorem RB_parking : RB 0 100 (.str "parking") := RB_of (by decide +kernel)
theorem RB_Few : RB 0 100 (.str "Few") := RB_of (by decide +kernel)
theorem val_pair {a y : D} (h1 : RB 3 20000 a) (h2 : RB 3 20000 y) (hh : HeadOk a) (hy : ∀ ys, y = .tuple ys → ys.length ≤ 900 ∧ ∀ d ∈ ys, okB d = true) : Val (.tuple [a, y]) :=
  ⟨(RB_pair h1 h2).mono (by omega) (by omega), fun a' y' e => by cases e; exact ⟨hh, hy⟩⟩
theorem RB_elems {ys : List D} (hl : ys.length ≤ 100) (h : ∀ d ∈ ys, RB 1 100 d) : RB 2 20000 (.tuple ys) :=
  (RB_tup h).mono (by omega) (by omega)
theorem RB_int1 {i : Int} (h : i.natAbs < 1073741824) : RB 1 100 (.int i) := (RB_int h).mono (by omega) (by omega)
theorem RB_ints {l : List Int} (h : ∀ i ∈ l, i.natAbs < 1073741824) : ∀ d ∈ iL l, RB 1 100 d := by
  intro d hd
  obtain ⟨i, hi, rfl⟩ := List.mem_map.mp hd
  exact RB_int1 (h i hi)
theorem val_park {ys : List D} (hl : ys.length ≤ 100) (h : ∀ d ∈ ys, RB 1 100 d ∧ okB d = true) : Val (.tuple [.str "parking", .tuple ys]) :=
  val_pair (RB_parking.mono (by omega) (by omega)) ((RB_elems hl fun d hd => (h d hd).1).mono (by omega) (by omega)) head_parking fun ys' e => by cases e; exact ⟨by omega, fun d hd => (h d hd).2⟩
theorem val_few {i : Int} (h : i.natAbs < 1073741824) : Val (.tuple [.str "few", .int i]) :=
  val_pair (RB_few.mono (by omega) (by omega)) ((RB_int h).mono (by omega) (by omega)) head_few fun ys' e => by cases e
theorem val_no {v : D} (h : RB 4 70000 v) (h2 : ∀ a y, v ≠ .tuple [a, y]) : Val v := ⟨h, fun a y e => absurd e (h2 a y)⟩
end K_roundswaps_k15_parkings_judged
namespace K_roundswaps_k15_parkings_judged
open PySem Pm Park
theorem lpick_ok (many : Int) (h : many < 18446744073709551616) (ss : SS) (ok : SSok ss) : ∃ r ss', F__law_pick [.src, .v (.int many)] ss = some (.v (.int r), ss') ∧ SSok ss' ∧ 0 ≤ r ∧ r < max 1 many := pick_ok many h ss ok
theorem lmixed_ok {xs : List D} {d : D} (hd : seqOf d = some xs) (hl : xs.length ≤ SL) (ss : SS) (ok : SSok ss) : ∃ ys ss', F__law_mixed [.src, .v d] ss = some (.fr ys, ss') ∧ SSok ss' ∧ ys.Perm xs := mixed_ok hd hl ss ok
theorem row_ok {m : Nat} (hm : m ≤ 12) (ss : SS) (ok : SSok ss) : ∃ row s1, F__law_row [.src, .v (.int m)] ss = some (.v (.tuple (iL row)), s1) ∧ SSok s1 ∧ row.length = m ∧ ∀ z ∈ row, 0 ≤ z ∧ z < 14 := by
  have hS : SL = 16777216 := rfl
  obtain ⟨r, s1, e1, ok1, p1, p2⟩ := lpick_ok 3 (by omega) ss ok
  by_cases hr : r = 0
  · have it := rg1_ok (e := .loc 1) (sl := [.src, .v (.int m), .un]) (ss := s1) (ss' := s1) (n := m) (td_of (ra := .v (.int m)) (by array_get_dec) rfl) (by omega)
    obtain ⟨rs, s2, e2, ok2, h1, h2⟩ := ev_lc_draw (elt := .call "_law_pick" F__law_pick [.loc 0, .bin .add (.loc 1) (.lit (.int 2))]) (tg := .one 2) (cond := []) (P := fun r => 0 ≤ r ∧ r < 14) it ok1 (by rw [iL_len, rgL_len]; omega) (fun d hd ss ok => by
      obtain ⟨i, _, rfl⟩ := List.mem_map.mp hd
      obtain ⟨r, s1, e1, ok1, p1, p2⟩ := lpick_ok ((m : Int) + 2) (by omega) ss ok
      refine ⟨r, s1, ?_, ok1, p1, by omega⟩
      apply lc_turnT; array_get_dec)
    refine ⟨rs, s2, ?_, ok2, by rw [h1, iL_len, rgL_len], h2⟩
    (unfold F__law_row B__law_row; apply Pm.f_run; rfl; array_get_dec)
  · have it := rg1_ok (e := .loc 1) (sl := [.src, .v (.int m), .un]) (ss := s1) (ss' := s1) (n := m) (td_of (ra := .v (.int m)) (by array_get_dec) rfl) (by omega)
    obtain ⟨rs, s2, e2, ok2, h1, h2⟩ := ev_lc_draw (elt := .call "_law_pick" F__law_pick [.loc 0, .bin .add (.loc 2) (.lit (.int 1))]) (tg := .one 2) (cond := []) (P := fun r => 0 ≤ r ∧ r < 14) it ok1 (by rw [iL_len, rgL_len]; omega) (fun d hd ss ok => by
      obtain ⟨i, hi, rfl⟩ := List.mem_map.mp hd
      obtain ⟨j, hj, rfl⟩ := List.mem_map.mp hi
      have hj := List.mem_range.mp hj
      obtain ⟨r, s1, e1, ok1, p1, p2⟩ := lpick_ok ((j : Int) + 1) (by omega) ss ok
      refine ⟨r, s1, ?_, ok1, p1, by omega⟩
      apply lc_turnT; array_get_dec)
    obtain ⟨ys, s3, e3, ok3, pm⟩ := lmixed_ok (xs := iL rs) (d := .list (iL rs)) rfl (by rw [iL_len, h1, iL_len, rgL_len]; omega) s2 ok2
    obtain ⟨late, rfl, pl⟩ := perm_iL pm
    refine ⟨late, s3, ?_, ok3, by rw [pl.length_eq, h1, iL_len, rgL_len], fun z hz => h2 z (pl.mem_iff.mp hz)⟩
    (unfold F__law_row B__law_row; apply Pm.f_run; rfl; array_get_dec)
theorem of_ok {ds : List D} (h : 1 ≤ ds.length) (h2 : ds.length < 1000) (ss : SS) (ok : SSok ss) : ∃ d ∈ ds, ∃ s1, F__law_of [.src, .v (.list ds)] ss = some (.v d, s1) ∧ SSok s1 := by
  obtain ⟨r, s1, e1, ok1, p1, p2⟩ := lpick_ok (ds.length : Int) (by omega) ss ok
  obtain ⟨d, hd, e2, _⟩ := idx_at (ds := ds) (r := r) ⟨p1, by omega⟩
  have l1 : biD .len [.list ds] = some (.v (.int ds.length)) := rfl
  refine ⟨d, hd, s1, ?_, ok1⟩
  (unfold F__law_of B__law_of; apply Pm.f_run; rfl; array_get_dec)
def seg1 : List CS := [.set 3 (.call "_law_pick" F__law_pick [(.loc 1), (.idx (.lst [(.lit (.int 3)), (.lit (.int 5)), (.lit (.int 8)), (.lit (.int 12))]) (.loc 2))]), .set 4 (.call "_law_row" F__law_row [(.loc 1), (.loc 3)]), .par [11, 12] [(.bi .repr [(.loc 4)]), (.call "_law_few" F__law_few [(.loc 4)])], .set 5 (.call "parking_paper" F_parking_paper [(.loc 4)]), .ite (.or (.cmp .ne (.cmp .isn (.loc 12) (.lit .none)) (.call "_law_is_park" F__law_is_park [(.loc 4)])) (.cmp .ne (.cmp .eq (.idx (.loc 5) (.lit (.int 0))) (.lit (.str "parking"))) (.cmp .isn (.loc 12) (.lit .none)))) [.ret (.lit (.bool false))] [], .ite (.or (.cmp .notn (.call "_law_fault" F__law_fault [(.loc 4), (.loc 5)]) (.lit .none)) (.cmp .ne (.bi .repr [(.call "is_parking" F_is_parking [(.loc 4)])]) (.bi .repr [(.cmp .isn (.loc 12) (.lit .none))]))) [.ret (.lit (.bool false))] [], .frz 5, .ite (.and (.cmp .isn (.loc 12) (.lit .none)) (.cmp .ne (.bi .repr [(.lst [(.call "parking_places" F_parking_places [(.loc 4)]), (.loc 5)])]) (.bi .repr [(.lst [(.call "_law_places" F__law_places [(.loc 4)]), (.tup [(.lit (.str "parking")), (.call "_law_places" F__law_places [(.loc 4)])])])]))) [.ret (.lit (.bool false))] [], .par [13, 14] [(.call "_law_pick" F__law_pick [(.loc 1), (.bin .add (.loc 3) (.lit (.int 1)))]), (.call "_law_pick" F__law_pick [(.loc 1), (.bin .add (.loc 3) (.lit (.int 2)))])]]
def vals (row : List Int) (y : D) (x k : Int) (o : D) : List D :=
  (([.tuple [.str (headS row), y], .tuple [.str "few", .int x], .tuple [.str "few", .int 0], .tuple [.str "parking", .tuple (iL (places row))], .tuple [.str "parking", .tuple (iL (places row)).reverse], .tuple [.str "parking", .tuple (iL row)]]
    ++ [.tuple [.str "parking", .tuple (iL ((places row).take k.toNat) ++ [o] ++ iL ((places row).drop (k.toNat + 1)))], .tuple [.str "few", o], .tuple [.str "parking", .list (iL (places row))]])
    ++ [.list [.str (headS row), y], .none, .tuple []])
    ++ [.tuple [.str "parking", .tuple (iL (places row) ++ [.int 0])], .tuple [.str (headS row)], .tuple ([.str (headS row), y] ++ [.int 0]), .tuple [.str "Few", .int 0], .tuple [o, .tuple (iL (places row))], .tuple [.str "parking", o]]
def Row (row : List Int) (m : Nat) : Prop := row.length = m ∧ m ≤ 12 ∧ ∀ z ∈ row, 0 ≤ z ∧ z < 14
theorem told_val {row : List Int} {m : Nat} (hr : Row row m) {y : D} (hy : toldD row = .tuple [.str (headS row), y]) : Val (.tuple [.str (headS row), y]) ∧ RB 3 20000 y := by
  obtain ⟨hl, hm, hb⟩ := hr
  obtain ⟨y', e, h⟩ := told_head row
  rw [hy] at e
  cases e
  have hP : ∀ i ∈ places row, i.natAbs < 1073741824 := fun i hi => by
    have h1 := mem_places_ge row (fun z hz => (hb z hz).1) i hi
    have h2 := mem_places_lt row 14 (fun z hz => (hb z hz).2) i hi
    omega
  rcases h with ⟨e, rfl⟩ | ⟨x, rfl, h1, h2, h3⟩
  · refine ⟨?_, (RB_elems (by rw [iL_len, places_len]; omega) (RB_ints hP)).mono (by omega) (by omega)⟩
    have : headS row = "parking" := by unfold headS; rw [e]
    rw [this]
    exact val_park (by rw [iL_len, places_len]; omega) fun d hd => ⟨RB_ints hP d hd, okB_ints _ d hd⟩
  · refine ⟨?_, (RB_int (by omega)).mono (by omega) (by omega)⟩
    have : headS row = "few" := by
      unfold headS
      cases e : fewL row with
      | nil => exact absurd e h3
      | cons _ _ => rfl
    rw [this]
    exact val_few (by omega)
theorem rT : biD .repr [.bool true] = some (.v (.str (PyData.bool true).shown)) := (RB_of (k := 0) (w := 100) (by decide +kernel)).repr (by omega) (by omega)
theorem rF : biD .repr [.bool false] = some (.v (.str (PyData.bool false).shown)) := (RB_of (k := 0) (w := 100) (by decide +kernel)).repr (by omega) (by omega)
theorem seg1_ok {lap : Int} (hlap : 0 ≤ lap ∧ lap < 4) (x0 x2 x3 x4 x5 x6 x7 x8 x9 x10 x11 x12 x13 x14 x15 x16 : SV) (ss : SS) (ok : SSok ss) : ∃ (m : Nat) (row : List Int) (y few : D) (k x : Int) (s' : SS), exs seg1 [x0, .src, .v (.int lap), x3, x4, x5, x6, x7, x8, x9, x10, x11, x12, x13, x14, x15, x16] ss = some (.nx [x0, .src, .v (.int lap), .v (.int m), .v (.tuple (iL row)), .v (.tuple [.str (headS row), y]), x6, x7, x8, x9, x10, .v (.str (PyData.tuple (iL row)).shown), .v few, .v (.int k), .v (.int x), x15, x16] s') ∧ SSok s' ∧ Row row m ∧ toldD row = .tuple [.str (headS row), y] ∧ (0 ≤ k ∧ k ≤ m) ∧ (0 ≤ x ∧ x ≤ m + 1) := by
  have hS : SL = 16777216 := rfl
  have hM : ∃ M : Int, idxD (.list [.int 3, .int 5, .int 8, .int 12]) (.int lap) = some (.int M) ∧ 3 ≤ M ∧ M ≤ 12 := by
    have : lap = 0 ∨ lap = 1 ∨ lap = 2 ∨ lap = 3 := by omega
    rcases this with rfl | rfl | rfl | rfl
    · exact ⟨3, rfl, by omega, by omega⟩
    · exact ⟨5, rfl, by omega, by omega⟩
    · exact ⟨8, rfl, by omega, by omega⟩
    · exact ⟨12, rfl, by omega, by omega⟩
  obtain ⟨M, i1, M1, M2⟩ := hM
  obtain ⟨mi, s1, e1, ok1, m1, m2⟩ := lpick_ok M (by omega) ss ok
  obtain ⟨m, rfl⟩ : ∃ m : Nat, mi = m := ⟨mi.toNat, by omega⟩
  obtain ⟨row, s2, e2, ok2, hl, hb⟩ := row_ok (m := m) (by omega) s1 ok1
  obtain ⟨k, s3, e3, ok3, k1, k2⟩ := lpick_ok ((m : Int) + 1) (by omega) s2 ok2
  obtain ⟨x, s4, e4, ok4, x1, x2⟩ := lpick_ok ((m : Int) + 2) (by omega) s3 ok3
  have hb9 : ∀ z ∈ row, 0 ≤ z ∧ z < 900 := fun z hz => by have := hb z hz; omega
  have hb10 : ∀ z ∈ row, 0 ≤ z ∧ z < 1000 := fun z hz => by have := hb z hz; omega
  have hb0 : ∀ z ∈ row, 0 ≤ z := fun z hz => (hb z hz).1
  obtain ⟨y, ey, hy⟩ := told_head row
  have hR : Row row m := ⟨hl, by omega, hb⟩
  obtain ⟨vt, vy⟩ := told_val hR ey
  have hP : ∀ i ∈ places row, i.natAbs < 1073741824 := fun i hi => by
    have h1 := mem_places_ge row hb0 i hi
    have h2 := mem_places_lt row 14 (fun z hz => (hb z hz).2) i hi
    omega
  have r1 : biD .repr [.tuple (iL row)] = some (.v (.str (PyData.tuple (iL row)).shown)) := (RB_elems (by rw [iL_len]; omega) (RB_ints fun i hi => by have := hb i hi; omega)).repr (by omega) (by omega)
  have c1 := lfew_eq row s2 (by omega)
  have c2 := paper_eq (row := row) s2 (by omega) hb10
  have c3 := isPark_eq row s2 (by omega)
  have c4 := fault_eq (row := row) (toldD row) s2 (by omega) hb9 (by rw [ey]; exact vt.2)
  have c5 := parking_eq (.tuple (iL row)) s2 (fun ds e => by cases e; rw [iL_len]; omega)
  have c6 := places_eq (row := row) s2 (by omega)
  rw [JF_told hb0] at c4
  rw [ey] at c2 c4
  have nT : cmpD .ne (.bool true) (.bool true) = some false := ne_bool true true
  have nF : cmpD .ne (.bool false) (.bool false) = some false := ne_bool false false
  have q5 : anyB (.tuple (iL row)) = decide (fewL row = []) := by
    have q' : (iL row).all nn = true := ints_nn hb0
    have e : intsL (iL row) = some row := intsL_map row
    simp [anyB, q', e]
  rw [q5] at c5
  refine ⟨m, row, y, headD (fewL row), k, x, s4, ?_, ok4, hR, ey, ⟨k1, by omega⟩, ⟨x1, by omega⟩⟩
  have hT := rT
  have hF := rF
  cases hf : fewL row with
  | nil =>
    have hp := (few_park row).mp hf
    have hh : headS row = "parking" := by unfold headS; rw [hf]
    have c7 := pplaces_eq (row := row) s2 (by omega) hb10 (fun z hz => (park_places hb0 hp z hz).2)
    have c3 := asT c3 ((lawP_park row).mpr hp)
    have c5 := asT c5 (decide_eq_true hf)
    have ey' : y = .tuple (iL (places row)) := by
      rcases hy with ⟨_, e⟩ | ⟨x, _, _, _, h⟩
      · exact e
      · exact absurd hf h
    rw [hf] at c1
    subst ey'
    rw [hh] at c2 c4 vt ⊢
    have r2 : biD .repr [.list [.tuple (iL (places row)), .tuple [.str "parking", .tuple (iL (places row))]]] = some (.v (.str (PyData.list [.tuple (iL (places row)), .tuple [.str "parking", .tuple (iL (places row))]]).shown)) := by
      refine RB.repr (k := 5) (w := 200000) ?_ (by omega) (by omega)
      refine (RB_list (k := 4) (w := 70000) fun d hd => ?_).mono (by omega) (by simp)
      rcases List.mem_cons.mp hd with rfl | hd
      · exact vy.mono (by omega) (by omega)
      · rw [List.mem_singleton] at hd; subst hd; exact vt.1
    unfold seg1
    show exs _ _ ss = some (.nx [x0, .src, .v (.int lap), .v (.int m), .v (.tuple (iL row)), .v (.tuple [.str "parking", .tuple (iL (places row))]), x6, x7, x8, x9, x10, .v (.str (PyData.tuple (iL row)).shown), .v .none, .v (.int k), .v (.int x), x15, x16] s4)
    array_get_dec
  | cons a r =>
    have hp : ¬ IsPark row := fun h => by rw [(few_park row).mpr h] at hf; cases hf
    have hh : headS row = "few" := by unfold headS; rw [hf]
    have c3 := asF c3 (by rw [← Bool.not_eq_true]; exact fun h => hp ((lawP_park row).mp h))
    have c5 := asF c5 (decide_eq_false (by rw [hf]; simp))
    rw [hf] at c1
    rw [hh] at c2 c4 vt ⊢
    unfold seg1
    show exs _ _ ss = some (.nx [x0, .src, .v (.int lap), .v (.int m), .v (.tuple (iL row)), .v (.tuple [.str "few", y]), x6, x7, x8, x9, x10, .v (.str (PyData.tuple (iL row)).shown), .v (.int a), .v (.int k), .v (.int x), x15, x16] s4)
    array_get_dec
end K_roundswaps_k15_parkings_judged
namespace K_roundswaps_k15_parkings_judged
open PySem Pm Park
theorem sli_drop (v : List Int) (k : Nat) (i : Int) (hi : i = k) : sliD (.tuple (iL v)) (.int i) .none = some (.v (.tuple (iL (v.drop k)))) := by
  subst hi
  have hk : ¬ (k : Int) < 0 := by omega
  have e2 : sIx (iL v).length (iL v).length PyData.none = some (iL v).length := rfl
  have e1 : sIx (iL v).length 0 (.int k) = some (min k v.length) := by
    unfold sIx
    simp [hk, iL_len]
  unfold sliD cut
  simp only [e1, e2, Option.map_some]
  congr 3
  unfold iL
  rw [← List.map_drop, List.take_of_length_le (by simp)]
  congr 1
  rcases Nat.le_total k v.length with h | h
  · rw [Nat.min_eq_left h]
  · rw [Nat.min_eq_right h, List.drop_eq_nil_of_le (Nat.le_refl _), List.drop_eq_nil_of_le h]
def seg1b : List CS := [.frz 3, .set 6 (.call "_law_of" F__law_of [(.loc 1), (.lst [(.lit .none), (.lit (.bool true)), (.neg (.lit (.int 1))), (.loc 3), (.lit (.str "0")), (.tup [(.lit (.int 0))]), (.lst [(.lit (.int 0))]), (.lit (.int 0)), (.lit (.int 1)), (.bin .pow (.lit (.int 10)) (.lit (.int 9)))])]), .set 7 (.call "_law_places" F__law_places [(.loc 4)]), .frz 5, .frz 14, .frz 7, .frz 4, .set 8 (.lst [(.loc 5), (.tup [(.lit (.str "few")), (.loc 14)]), (.tup [(.lit (.str "few")), (.lit (.int 0))]), (.tup [(.lit (.str "parking")), (.loc 7)]), (.tup [(.lit (.str "parking")), (.rev (.loc 7))]), (.tup [(.lit (.str "parking")), (.loc 4)])]), .frz 6, .set 8 (.bin .add (.loc 8) (.lst [(.tup [(.lit (.str "parking")), (.bin .add (.bin .add (.sli (.loc 7) .nop (.loc 13)) (.tup [(.loc 6)])) (.sli (.loc 7) (.bin .add (.loc 13) (.lit (.int 1))) .nop))]), (.tup [(.lit (.str "few")), (.loc 6)]), (.tup [(.lit (.str "parking")), (.bi .list [(.loc 7)])])])), .set 8 (.bin .add (.loc 8) (.lst [(.bi .list [(.loc 5)]), (.lit .none), (.tup [])])), .frz 6, .frz 7, .set 8 (.bin .add (.loc 8) (.lst [(.tup [(.lit (.str "parking")), (.bin .add (.loc 7) (.tup [(.lit (.int 0))]))]), (.sli (.loc 5) .nop (.lit (.int 1))), (.bin .add (.loc 5) (.tup [(.lit (.int 0))])), (.tup [(.lit (.str "Few")), (.lit (.int 0))]), (.tup [(.loc 6), (.loc 7)]), (.tup [(.lit (.str "parking")), (.loc 6)])]))]
theorem seg1b_ok {m : Nat} {row : List Int} {lap k x : Int} {y few : D} (hr : Row row m) (hk : 0 ≤ k ∧ k ≤ m) (x0 x2 x3 x4 x5 x6 x7 x8 x9 x10 x11 x12 x13 x14 x15 x16 : SV) (ss : SS) (ok : SSok ss) : ∃ (o : D) (s' : SS), exs seg1b [x0, .src, .v (.int lap), .v (.int m), .v (.tuple (iL row)), .v (.tuple [.str (headS row), y]), x6, x7, x8, x9, x10, .v (.str (PyData.tuple (iL row)).shown), .v few, .v (.int k), .v (.int x), x15, x16] ss = some (.nx [x0, .src, .v (.int lap), .v (.int m), .v (.tuple (iL row)), .v (.tuple [.str (headS row), y]), .v o, .v (.tuple (iL (places row))), .own (vals row y x k o), x9, x10, .v (.str (PyData.tuple (iL row)).shown), .v few, .v (.int k), .v (.int x), x15, x16] s') ∧ SSok s' ∧ OddOk o := by
  have hS : SL = 16777216 := rfl
  obtain ⟨hl, hm, hb⟩ := hr
  obtain ⟨o, ho, s1, e1, ok1⟩ := of_ok (ds := oddL m) (by simp [oddL]) (by simp [oddL]) ss ok
  unfold oddL at e1
  have hpow : binD .pow (.int 10) (.int 9) = some (.v (.int 1000000000)) := by
    unfold binD powD
    simp only
    rw [if_pos (by decide)]
    rfl
  have c6 := places_eq (row := row) s1 (by omega)
  have t1 := sli_take (places row) k.toNat
  have t2 := sli_drop (places row) (k.toNat + 1) (k + 1) (by omega)
  rw [show ((k.toNat : Nat) : Int) = k by omega] at t1
  have hpl := places_len row
  have t3 : sliD (.tuple [.str (headS row), y]) .none (.int 1) = some (.v (.tuple [.str (headS row)])) := rfl
  refine ⟨o, s1, ?_, ok1, odd_ok ⟨by omega, by omega⟩ o ho⟩
  unfold seg1b
  array_get_dec
def b1 : List CS := [.par [15, 16] [(.bi .repr [(.loc 9)]), (.call "_law_fault" F__law_fault [(.loc 4), (.loc 9)])], .ite (.or (.cmp .ne (.bi .repr [(.call "judge_parking" F_judge_parking [(.loc 4), (.loc 9)])]) (.bi .repr [(.loc 16)])) (.cmp .ne (.bi .repr [(.loc 9)]) (.loc 15))) [.ret (.lit (.bool false))] [], .ite (.and (.cmp .isn (.loc 16) (.lit .none)) (.cmp .ne (.idx (.loc 9) (.lit (.int 0))) (.idx (.loc 5) (.lit (.int 0))))) [.ret (.lit (.bool false))] []]
theorem isNone_ne {d : D} (h : d ≠ .none) : isNone d = false := by cases d <;> first | rfl | exact absurd rfl h
theorem turn1_ok {m : Nat} {row : List Int} {xs : List D} {lap k x : Int} {y few o v : D} (hr : Row row m) (hV : Val v) (x0 x2 x3 x4 x5 x6 x7 x8 x9 x10 x11 x12 x13 x14 x15 x16 : SV) (ss : SS) : exs b1 [x0, .src, .v (.int lap), .v (.int m), .v (.tuple (iL row)), .v (.tuple [.str (headS row), y]), .v o, .v (.tuple (iL (places row))), .lock xs, .v v, x10, .v (.str (PyData.tuple (iL row)).shown), .v few, .v (.int k), .v (.int x), x15, x16] ss = some (.nx [x0, .src, .v (.int lap), .v (.int m), .v (.tuple (iL row)), .v (.tuple [.str (headS row), y]), .v o, .v (.tuple (iL (places row))), .lock xs, .v v, x10, .v (.str (PyData.tuple (iL row)).shown), .v few, .v (.int k), .v (.int x), .v (.str v.shown), .v (JF row v)] ss) := by
  have hS : SL = 16777216 := rfl
  obtain ⟨hl, hm, hb⟩ := hr
  have hb9 : ∀ z ∈ row, 0 ≤ z ∧ z < 900 := fun z hz => by have := hb z hz; omega
  obtain ⟨hR, hK⟩ := hV
  have rv := hR.repr (by omega) (by omega)
  have rJ := (RB_JF (row := row) (by omega) v).repr (by omega) (by omega)
  have ff := fault_eq (row := row) v ss (by omega) hb9 hK
  have fj := judge_eq (row := row) v ss (by omega) hb9 (fun a ys e => ((hK a _ e).2 ys rfl).1)
  by_cases hj : JF row v = .none
  · obtain ⟨y', rfl⟩ := JF_none hj
    rw [hj] at ff fj rJ ⊢
    unfold b1
    array_get_dec
  · have hn : cmpD .isn (JF row v) .none = some false := by show some (isNone _) = _; rw [isNone_ne hj]
    generalize JF row v = j at *
    unfold b1
    array_get_dec
theorem loop1_ok {m : Nat} {row : List Int} {xs : List D} {lap k x : Int} {y few o : D} (hr : Row row m) (hxs : ∀ v ∈ xs, Val v) (x0 x2 x3 x4 x5 x6 x7 x8 x9 x10 x11 x12 x13 x14 x15 x16 : SV) (ss : SS) : ∃ y9 y15 y16, ex (.forr (.one 9) (.loc 8) b1) [x0, .src, .v (.int lap), .v (.int m), .v (.tuple (iL row)), .v (.tuple [.str (headS row), y]), .v o, .v (.tuple (iL (places row))), .own xs, x9, x10, .v (.str (PyData.tuple (iL row)).shown), .v few, .v (.int k), .v (.int x), x15, x16] ss = some (.nx [x0, .src, .v (.int lap), .v (.int m), .v (.tuple (iL row)), .v (.tuple [.str (headS row), y]), .v o, .v (.tuple (iL (places row))), .own xs, y9, x10, .v (.str (PyData.tuple (iL row)).shown), .v few, .v (.int k), .v (.int x), y15, y16] ss) := by
  have sc := forD_all (f := fun d sl' ss' => (bindT (.one 9) d sl').bind fun sl' => keptLocks [8] (exs b1 sl' ss')) (I := fun sl => ∃ y9 y15 y16, sl = [x0, .src, .v (.int lap), .v (.int m), .v (.tuple (iL row)), .v (.tuple [.str (headS row), y]), .v o, .v (.tuple (iL (places row))), .lock xs, y9, x10, .v (.str (PyData.tuple (iL row)).shown), .v few, .v (.int k), .v (.int x), y15, y16]) (ss := ss) (ds := xs) (sl := [x0, .src, .v (.int lap), .v (.int m), .v (.tuple (iL row)), .v (.tuple [.str (headS row), y]), .v o, .v (.tuple (iL (places row))), .lock xs, x9, x10, .v (.str (PyData.tuple (iL row)).shown), .v few, .v (.int k), .v (.int x), x15, x16]) ⟨_, _, _, rfl⟩ (fun v hv sl hI => by
    obtain ⟨y9, y15, y16, rfl⟩ := hI
    have e4 : bindT (.one 9) v [x0, .src, .v (.int lap), .v (.int m), .v (.tuple (iL row)), .v (.tuple [.str (headS row), y]), .v o, .v (.tuple (iL (places row))), .lock xs, y9, x10, .v (.str (PyData.tuple (iL row)).shown), .v few, .v (.int k), .v (.int x), y15, y16] = some [x0, .src, .v (.int lap), .v (.int m), .v (.tuple (iL row)), .v (.tuple [.str (headS row), y]), .v o, .v (.tuple (iL (places row))), .lock xs, .v v, x10, .v (.str (PyData.tuple (iL row)).shown), .v few, .v (.int k), .v (.int x), y15, y16] := by simp [bindT, setS]
    have key := turn1_ok (xs := xs) (lap := lap) (k := k) (x := x) (y := y) (few := few) (o := o) hr (hxs v hv) x0 x2 x3 x4 x5 x6 x7 x8 x9 x10 x11 x12 x13 x14 y15 y16 ss
    refine ⟨[x0, .src, .v (.int lap), .v (.int m), .v (.tuple (iL row)), .v (.tuple [.str (headS row), y]), .v o, .v (.tuple (iL (places row))), .lock xs, .v v, x10, .v (.str (PyData.tuple (iL row)).shown), .v few, .v (.int k), .v (.int x), .v (.str v.shown), .v (JF row v)], ?_, .v v, .v (.str v.shown), .v (JF row v), rfl⟩
    rw [e4]
    simp only [Option.bind_some, key]
    exact kept_nx (i := 8) (sl := [x0, .src, .v (.int lap), .v (.int m), .v (.tuple (iL row)), .v (.tuple [.str (headS row), y]), .v o, .v (.tuple (iL (places row))), .lock xs, .v v, x10, .v (.str (PyData.tuple (iL row)).shown), .v few, .v (.int k), .v (.int x), .v (.str v.shown), .v (JF row v)]) rfl)
  obtain ⟨sl', e, y9, y15, y16, rfl⟩ := sc
  exact ⟨y9, y15, y16, q_forO (i := 8) (xs := xs) rfl rfl e rfl rfl⟩
end K_roundswaps_k15_parkings_judged
namespace K_roundswaps_k15_parkings_judged
open PySem Pm Park
theorem hs_ok (row : List Int) : RB 0 100 (.str (headS row)) ∧ HeadOk (.str (headS row)) := by
  unfold headS
  cases fewL row with
  | nil => exact ⟨RB_parking, head_parking⟩
  | cons _ _ => exact ⟨RB_few, head_few⟩
theorem vals_ok {m : Nat} {row : List Int} {y o : D} {x k : Int} (hr : Row row m) (hy : toldD row = .tuple [.str (headS row), y]) (hx : 0 ≤ x ∧ x ≤ m + 1) (ho : OddOk o) : ∀ v ∈ vals row y x k o, Val v := by
  obtain ⟨vt, vy⟩ := told_val hr hy
  obtain ⟨hl, hm, hb⟩ := hr
  obtain ⟨o1, o2, o3, o4⟩ := ho
  obtain ⟨hs1, hs2⟩ := hs_ok row
  have hP : ∀ i ∈ places row, i.natAbs < 1073741824 := fun i hi => by
    have h1 := mem_places_ge row (fun z hz => (hb z hz).1) i hi
    have h2 := mem_places_lt row 14 (fun z hz => (hb z hz).2) i hi
    omega
  have hpl := places_len row
  have eP : ∀ d ∈ iL (places row), RB 1 100 d ∧ okB d = true := fun d hd => ⟨RB_ints hP d hd, okB_ints _ d hd⟩
  have e0 : RB 1 100 (.int 0) ∧ okB (.int 0) = true := ⟨RB_int1 (by omega), rfl⟩
  have lP : (iL (places row)).length ≤ 12 := by rw [iL_len]; omega
  intro v hv
  unfold vals at hv
  simp only [List.cons_append, List.nil_append, List.mem_cons, List.not_mem_nil, or_false] at hv
  rcases hv with rfl | rfl | rfl | rfl | rfl | rfl | rfl | rfl | rfl | rfl | rfl | rfl | rfl | rfl | rfl | rfl | rfl | rfl
  · exact vt
  · exact val_few (by omega)
  · exact val_few (by omega)
  · exact val_park (by omega) eP
  · exact val_park (by rw [List.length_reverse]; omega) fun d hd => eP d (List.mem_reverse.mp hd)
  · exact val_park (by rw [iL_len]; omega) fun d hd => ⟨RB_ints (fun i hi => by have := hb i hi; omega) d hd, okB_ints _ d hd⟩
  · refine val_park ?_ fun d hd => ?_
    · simp only [List.length_append, iL_len, List.length_take, List.length_drop, List.length_cons, List.length_nil]; omega
    · simp only [List.mem_append, List.mem_singleton] at hd
      rcases hd with (hd | rfl) | hd
      · refine ⟨RB_ints (fun i hi => hP i (List.mem_of_mem_take hi)) d hd, okB_ints _ d hd⟩
      · exact ⟨o1, o2⟩
      · refine ⟨RB_ints (fun i hi => hP i (List.mem_of_mem_drop hi)) d hd, okB_ints _ d hd⟩
  · exact val_pair (RB_few.mono (by omega) (by omega)) (o1.mono (by omega) (by omega)) head_few o4
  · exact val_pair (RB_parking.mono (by omega) (by omega)) ((RB_list fun d hd => (eP d hd).1).mono (by omega) (by omega)) head_parking fun ys e => by cases e
  · refine val_no ((RB_list (k := 3) (w := 20000) fun d hd => ?_).mono (by omega) (by simp)) fun a y e => by cases e
    rcases List.mem_cons.mp hd with rfl | hd
    · exact hs1.mono (by omega) (by omega)
    · rw [List.mem_singleton] at hd; subst hd; exact vy
  · exact val_no (RB_none.mono (by omega) (by omega)) fun a y e => by cases e
  · exact val_no (RB_of (by decide +kernel)) fun a y e => by cases e
  · refine val_park (by rw [List.length_append]; simp only [List.length_cons, List.length_nil]; omega) fun d hd => ?_
    simp only [List.mem_append, List.mem_singleton] at hd
    rcases hd with hd | rfl
    · exact eP d hd
    · exact e0
  · refine val_no ((RB_tup (k := 0) (w := 100) fun d hd => ?_).mono (by omega) (by simp)) fun a y e => by cases e
    rw [List.mem_singleton] at hd; subst hd; exact hs1
  · refine val_no ((RB_tup (k := 3) (w := 20000) fun d hd => ?_).mono (by omega) (by simp)) fun a y e => by cases e
    simp only [List.cons_append, List.nil_append, List.mem_cons, List.not_mem_nil, or_false] at hd
    rcases hd with rfl | rfl | rfl
    · exact hs1.mono (by omega) (by omega)
    · exact vy
    · exact (RB_int (by omega)).mono (by omega) (by omega)
  · exact val_pair (RB_Few.mono (by omega) (by omega)) ((RB_int (by omega)).mono (by omega) (by omega)) head_Few fun ys e => by cases e
  · exact val_pair (o1.mono (by omega) (by omega)) ((RB_tup fun d hd => (eP d hd).1).mono (by omega) (by omega)) o3 fun ys e => by cases e; exact ⟨by omega, fun d hd => (eP d hd).2⟩
  · exact val_pair (RB_parking.mono (by omega) (by omega)) (o1.mono (by omega) (by omega)) head_parking o4
def seg2 : List CS := [.set 10 (.bi .tuple [(.call "_law_mixed" F__law_mixed [(.loc 1), (.bi .list [(.loc 4)])])]), .frz 6]
theorem seg2_ok {row : List Int} {lap k x : Int} {y few o : D} {m : Nat} {xs : List D} (hr : Row row m) (x0 x2 x3 x4 x5 x6 x7 x8 x9 x10 x11 x12 x13 x14 x15 x16 : SV) (ss : SS) (ok : SSok ss) : ∃ (some : List Int) (s' : SS), exs seg2 [x0, .src, .v (.int lap), .v (.int m), .v (.tuple (iL row)), .v (.tuple [.str (headS row), y]), .v o, .v (.tuple (iL (places row))), .own xs, x9, x10, .v (.str (PyData.tuple (iL row)).shown), .v few, .v (.int k), .v (.int x), x15, x16] ss = .some (.nx [x0, .src, .v (.int lap), .v (.int m), .v (.tuple (iL row)), .v (.tuple [.str (headS row), y]), .v o, .v (.tuple (iL (places row))), .own xs, x9, .v (.tuple (iL some)), .v (.str (PyData.tuple (iL row)).shown), .v few, .v (.int k), .v (.int x), x15, x16] s') ∧ SSok s' ∧ some.Perm row := by
  have hS : SL = 16777216 := rfl
  obtain ⟨hl, hm, hb⟩ := hr
  obtain ⟨ys, s3, e3, ok3, pm⟩ := lmixed_ok (xs := iL row) (d := .list (iL row)) rfl (by rw [iL_len]; omega) ss ok
  obtain ⟨late, rfl, pl⟩ := perm_iL pm
  refine ⟨late, s3, ?_, ok3, pl⟩
  unfold seg2
  array_get_dec
def b2 : List CS := [.ite (.cmp .ne (.bi .repr [(.call "is_parking" F_is_parking [(.loc 9)])]) (.bi .repr [(.call "_law_is_any" F__law_is_any [(.loc 9)])])) [.ret (.lit (.bool false))] []]
theorem bool_repr (b : Bool) : biD .repr [.bool b] = some (.v (.str (PyData.bool b).shown)) := by cases b; exact rF; exact rT
theorem turn2_ok {row some : List Int} {lap k x : Int} {y few o v : D} {m : Nat} {xs : List D} (hv : ∀ ds, v = .tuple ds → ds.length ≤ SL ∧ ∀ z ∈ ds, okB z = true) (x0 x2 x3 x4 x5 x6 x7 x8 x9 x10 x11 x12 x13 x14 x15 x16 : SV) (ss : SS) : exs b2 [x0, .src, .v (.int lap), .v (.int m), .v (.tuple (iL row)), .v (.tuple [.str (headS row), y]), .v o, .v (.tuple (iL (places row))), .own xs, .v v, .v (.tuple (iL some)), .v (.str (PyData.tuple (iL row)).shown), .v few, .v (.int k), .v (.int x), x15, x16] ss = .some (.nx [x0, .src, .v (.int lap), .v (.int m), .v (.tuple (iL row)), .v (.tuple [.str (headS row), y]), .v o, .v (.tuple (iL (places row))), .own xs, .v v, .v (.tuple (iL some)), .v (.str (PyData.tuple (iL row)).shown), .v few, .v (.int k), .v (.int x), x15, x16] ss) := by
  have f1 := parking_eq v ss fun ds e => (hv ds e).1
  have f2 := any_eq v ss hv
  have rb := bool_repr (anyB v)
  unfold b2
  array_get_dec
def it2 : CE := (.lst [(.loc 10), (.bin .add (.bin .add (.sli (.loc 4) .nop (.loc 13)) (.tup [(.loc 6)])) (.sli (.loc 4) (.bin .add (.loc 13) (.lit (.int 1))) .nop)), (.bi .list [(.loc 4)]), (.bin .add (.loc 4) (.tup [(.lit (.int 0))])), (.sli (.loc 4) (.lit (.int 1)) .nop), (.lit .none), (.loc 6)])
theorem loop2_ok {row some : List Int} {lap k x : Int} {y few o : D} {m : Nat} {xs : List D} (hr : Row row m) (hk : 0 ≤ k ∧ k ≤ m) (hp : some.Perm row) (ho : OddOk o) (x0 x2 x3 x4 x5 x6 x7 x8 x9 x10 x11 x12 x13 x14 x15 x16 : SV) (ss : SS) : ∃ y9, ex (.forr (.one 9) it2 b2) [x0, .src, .v (.int lap), .v (.int m), .v (.tuple (iL row)), .v (.tuple [.str (headS row), y]), .v o, .v (.tuple (iL (places row))), .own xs, x9, .v (.tuple (iL some)), .v (.str (PyData.tuple (iL row)).shown), .v few, .v (.int k), .v (.int x), x15, x16] ss = .some (.nx [x0, .src, .v (.int lap), .v (.int m), .v (.tuple (iL row)), .v (.tuple [.str (headS row), y]), .v o, .v (.tuple (iL (places row))), .own xs, y9, .v (.tuple (iL some)), .v (.str (PyData.tuple (iL row)).shown), .v few, .v (.int k), .v (.int x), x15, x16] ss) := by
  have hS : SL = 16777216 := rfl
  obtain ⟨hl, hm, hb⟩ := hr
  obtain ⟨o1, o2, o3, o4⟩ := ho
  have t1 := sli_take row k.toNat
  have t2 := sli_drop row (k.toNat + 1) (k + 1) (by omega)
  have t3 := sli_drop row 1 1 rfl
  rw [show ((k.toNat : Nat) : Int) = k by omega] at t1
  have itv : ev it2 [x0, .src, .v (.int lap), .v (.int m), .v (.tuple (iL row)), .v (.tuple [.str (headS row), y]), .v o, .v (.tuple (iL (places row))), .own xs, x9, .v (.tuple (iL some)), .v (.str (PyData.tuple (iL row)).shown), .v few, .v (.int k), .v (.int x), x15, x16] ss = .some (.fr [.tuple (iL some), .tuple (iL (row.take k.toNat) ++ [o] ++ iL (row.drop (k.toNat + 1))), .list (iL row), .tuple (iL row ++ [.int 0]), .tuple (iL (row.drop 1)), .none, o], ss) := by
    unfold it2
    array_get_dec
  have sc := forD_all (f := fun d sl' ss' => (bindT (.one 9) d sl').bind fun sl' => exs b2 sl' ss') (I := fun sl => ∃ y9, sl = [x0, .src, .v (.int lap), .v (.int m), .v (.tuple (iL row)), .v (.tuple [.str (headS row), y]), .v o, .v (.tuple (iL (places row))), .own xs, y9, .v (.tuple (iL some)), .v (.str (PyData.tuple (iL row)).shown), .v few, .v (.int k), .v (.int x), x15, x16]) (ss := ss) (ds := [.tuple (iL some), .tuple (iL (row.take k.toNat) ++ [o] ++ iL (row.drop (k.toNat + 1))), .list (iL row), .tuple (iL row ++ [.int 0]), .tuple (iL (row.drop 1)), .none, o]) (sl := [x0, .src, .v (.int lap), .v (.int m), .v (.tuple (iL row)), .v (.tuple [.str (headS row), y]), .v o, .v (.tuple (iL (places row))), .own xs, x9, .v (.tuple (iL some)), .v (.str (PyData.tuple (iL row)).shown), .v few, .v (.int k), .v (.int x), x15, x16]) ⟨_, rfl⟩ (fun v hv sl hI => by
    obtain ⟨y9, rfl⟩ := hI
    have e4 : bindT (.one 9) v [x0, .src, .v (.int lap), .v (.int m), .v (.tuple (iL row)), .v (.tuple [.str (headS row), y]), .v o, .v (.tuple (iL (places row))), .own xs, y9, .v (.tuple (iL some)), .v (.str (PyData.tuple (iL row)).shown), .v few, .v (.int k), .v (.int x), x15, x16] = .some [x0, .src, .v (.int lap), .v (.int m), .v (.tuple (iL row)), .v (.tuple [.str (headS row), y]), .v o, .v (.tuple (iL (places row))), .own xs, .v v, .v (.tuple (iL some)), .v (.str (PyData.tuple (iL row)).shown), .v few, .v (.int k), .v (.int x), x15, x16] := by simp [bindT, setS]
    have key := turn2_ok (xs := xs) (row := row) (some := some) (lap := lap) (k := k) (x := x) (y := y) (few := few) (o := o) (m := m) (v := v) (by
      simp only [List.mem_cons, List.not_mem_nil, or_false] at hv
      intro ds e
      rcases hv with rfl | rfl | rfl | rfl | rfl | rfl | rfl
      · cases e
        exact ⟨by rw [iL_len, hp.length_eq]; omega, okB_ints _⟩
      · cases e
        refine ⟨by simp only [List.length_append, iL_len, List.length_take, List.length_drop, List.length_cons, List.length_nil]; omega, fun d hd => ?_⟩
        simp only [List.mem_append, List.mem_singleton] at hd
        rcases hd with (hd | rfl) | hd
        · exact okB_ints _ d hd
        · exact o2
        · exact okB_ints _ d hd
      · cases e
      · cases e
        refine ⟨by simp only [List.length_append, iL_len, List.length_cons, List.length_nil]; omega, fun d hd => ?_⟩
        simp only [List.mem_append, List.mem_singleton] at hd
        rcases hd with hd | rfl
        · exact okB_ints _ d hd
        · rfl
      · cases e
        exact ⟨by rw [iL_len, List.length_drop]; omega, okB_ints _⟩
      · cases e
      · have := o4 ds e
        exact ⟨by omega, this.2⟩) x0 x2 x3 x4 x5 x6 x7 x8 x9 x10 x11 x12 x13 x14 x15 x16 ss
    refine ⟨[x0, .src, .v (.int lap), .v (.int m), .v (.tuple (iL row)), .v (.tuple [.str (headS row), y]), .v o, .v (.tuple (iL (places row))), .own xs, .v v, .v (.tuple (iL some)), .v (.str (PyData.tuple (iL row)).shown), .v few, .v (.int k), .v (.int x), x15, x16], ?_, .v v, rfl⟩
    rw [e4]
    simp only [Option.bind_some, key])
  obtain ⟨sl', e, y9, rfl⟩ := sc
  exact ⟨y9, q_for rfl itv rfl rfl e⟩
def seg3 : List CS := [.ite (.cmp .ne (.bi .repr [(.loc 4)]) (.loc 11)) [.ret (.lit (.bool false))] []]
theorem seg3_ok {row some : List Int} {lap k x : Int} {y few o : D} {m : Nat} {xs : List D} (hr : Row row m) (x0 x2 x3 x4 x5 x6 x7 x8 x9 x10 x11 x12 x13 x14 x15 x16 : SV) (ss : SS) : exs seg3 [x0, .src, .v (.int lap), .v (.int m), .v (.tuple (iL row)), .v (.tuple [.str (headS row), y]), .v o, .v (.tuple (iL (places row))), .own xs, x9, .v (.tuple (iL some)), .v (.str (PyData.tuple (iL row)).shown), .v few, .v (.int k), .v (.int x), x15, x16] ss = .some (.nx [x0, .src, .v (.int lap), .v (.int m), .v (.tuple (iL row)), .v (.tuple [.str (headS row), y]), .v o, .v (.tuple (iL (places row))), .own xs, x9, .v (.tuple (iL some)), .v (.str (PyData.tuple (iL row)).shown), .v few, .v (.int k), .v (.int x), x15, x16] ss) := by
  obtain ⟨hl, hm, hb⟩ := hr
  have r1 : biD .repr [.tuple (iL row)] = .some (.v (.str (PyData.tuple (iL row)).shown)) := (RB_elems (by rw [iL_len]; omega) (RB_ints fun i hi => by have := hb i hi; omega)).repr (by omega) (by omega)
  unfold seg3
  array_get_dec
def lawBody : List CS := seg1 ++ (seg1b ++ (.forr (.one 9) (.loc 8) b1 :: (seg2 ++ (.forr (.one 9) it2 b2 :: seg3))))
def Any (sl : List SV) : Prop := ∃ x0 x2 x3 x4 x5 x6 x7 x8 x9 x10 x11 x12 x13 x14 x15 x16 : SV, sl = [x0, .src, x2, x3, x4, x5, x6, x7, x8, x9, x10, x11, x12, x13, x14, x15, x16]
theorem turn_ok {lap : Int} (hlap : 0 ≤ lap ∧ lap < 4) (x0 x2 x3 x4 x5 x6 x7 x8 x9 x10 x11 x12 x13 x14 x15 x16 : SV) (ss : SS) (ok : SSok ss) : ∃ sl' s', exs lawBody [x0, .src, .v (.int lap), x3, x4, x5, x6, x7, x8, x9, x10, x11, x12, x13, x14, x15, x16] ss = some (.nx sl' s') ∧ SSok s' ∧ Any sl' := by
  obtain ⟨m, row, y, few, k, x, s1, e1, ok1, hr, hy, hk, hx⟩ := seg1_ok hlap x0 x2 x3 x4 x5 x6 x7 x8 x9 x10 x11 x12 x13 x14 x15 x16 ss ok
  obtain ⟨o, s2, e2, ok2, ho⟩ := seg1b_ok (lap := lap) (k := k) (x := x) (y := y) (few := few) hr hk x0 x2 x3 x4 x5 x6 x7 x8 x9 x10 x11 x12 x13 x14 x15 x16 s1 ok1
  obtain ⟨y9, y15, y16, e3⟩ := loop1_ok (xs := vals row y x k o) (lap := lap) (k := k) (x := x) (y := y) (few := few) (o := o) hr (vals_ok hr hy hx ho) x0 x2 x3 x4 x5 x6 x7 x8 x9 x10 x11 x12 x13 x14 x15 x16 s2
  obtain ⟨late, s3, e4, ok3, hp⟩ := seg2_ok (xs := vals row y x k o) (lap := lap) (k := k) (x := x) (y := y) (few := few) (o := o) hr x0 x2 x3 x4 x5 x6 x7 x8 y9 x10 x11 x12 x13 x14 y15 y16 s2 ok2
  obtain ⟨z9, e5⟩ := loop2_ok (xs := vals row y x k o) (lap := lap) (k := k) (x := x) (y := y) (few := few) (o := o) hr hk hp ho x0 x2 x3 x4 x5 x6 x7 x8 y9 x10 x11 x12 x13 x14 y15 y16 s3
  have e6 := seg3_ok (xs := vals row y x k o) (some := late) (lap := lap) (k := k) (x := x) (y := y) (few := few) (o := o) hr x0 x2 x3 x4 x5 x6 x7 x8 z9 x10 x11 x12 x13 x14 y15 y16 s3
  exact ⟨_, s3, (exs_app e1).trans ((exs_app e2).trans ((exs_nx e3).trans ((exs_app e4).trans ((exs_nx e5).trans e6)))), ok3, _, _, _, _, _, _, _, _, _, _, _, _, _, _, _, _, rfl⟩
theorem first_ok (sl : List SV) (ss : SS) (ok : SSok ss) (h : Any sl) : ∃ sl' ss', ex (.forr (.one 2) (.rg1 (.lit (.int 4))) lawBody) sl ss = some (.nx sl' ss') ∧ SSok ss' ∧ Any sl' := by
  rw [x_for (is := []) (ds := iL (rgL 4)) (ss1 := ss) rfl (rg1_ok (n := 4) rfl (by decide)) (fun i hi => by cases hi)]
  obtain ⟨sl', ss', e, _, ok', a⟩ := forD_inv (f := fun d sl' ss' => (bindT (.one 2) d sl').bind fun sl' => exs lawBody sl' ss') (I := fun rest sl ss => (∀ d ∈ rest, ∃ k : Int, (0 ≤ k ∧ k < 4) ∧ d = .int k) ∧ SSok ss ∧ Any sl) (ds := iL (rgL 4)) (sl := sl) (ss := ss)
    ⟨fun d hd => by
      obtain ⟨i, hi, rfl⟩ := List.mem_map.mp hd
      obtain ⟨k, hk, rfl⟩ := List.mem_map.mp hi
      have := List.mem_range.mp hk
      exact ⟨k, ⟨by omega, by omega⟩, rfl⟩, ok, h⟩ (fun d r sl ss ⟨h1, ok, x0, x2, x3, x4, x5, x6, x7, x8, x9, x10, x11, x12, x13, x14, x15, x16, ha⟩ => by
      obtain ⟨k, hk, rfl⟩ := h1 d List.mem_cons_self
      subst ha
      have e0 : bindT (.one 2) (.int k) [x0, .src, x2, x3, x4, x5, x6, x7, x8, x9, x10, x11, x12, x13, x14, x15, x16] = some [x0, .src, .v (.int k), x3, x4, x5, x6, x7, x8, x9, x10, x11, x12, x13, x14, x15, x16] := by simp [bindT, setS]
      obtain ⟨sl', s', e, ok', a⟩ := turn_ok hk x0 x2 x3 x4 x5 x6 x7 x8 x9 x10 x11 x12 x13 x14 x15 x16 ss ok
      refine ⟨sl', s', ?_, fun d hd => h1 d (List.mem_cons_of_mem _ hd), ok', a⟩
      rw [e0]
      exact e)
  exact ⟨sl', ss', e, ok', a⟩
theorem law_cut : B_law = [.forr (.one 2) (.rg1 (.lit (.int 4))) lawBody, .ret (.and (.cmp .eq (.call "parking_paper" F_parking_paper [(.tup [(.lit (.int 1)), (.lit (.int 1))])]) (.tup [(.lit (.str "few")), (.lit (.int 0))])) (.cmp (.isb true) (.call "is_parking" F_is_parking [(.tup [(.lit (.int 1)), (.lit (.int 0)), (.lit (.int 1))])]) (.lit (.bool true))))] := rfl
theorem true_ : LawTrue N_law.length 1 B_law := by
  intro ss ok
  have hS : SL = 16777216 := rfl
  have h0 : Any ((List.replicate N_law.length SV.un).set 1 .src) := ⟨.un, .un, .un, .un, .un, .un, .un, .un, .un, .un, .un, .un, .un, .un, .un, .un, rfl⟩
  obtain ⟨sl1, s1, e1, ok1, x0, x2, x3, x4, x5, x6, x7, x8, x9, x10, x11, x12, x13, x14, x15, x16, rfl⟩ := first_ok _ ss ok h0
  rw [law_cut, exs_nx e1]
  have c1 : F_parking_paper [.v (.tuple [.int 1, .int 1])] s1 = some (.v (.tuple [.str "few", .int 0]), s1) := paper_eq (row := [1, 1]) s1 (by simp) (by simp)
  have c2 : cmpD .eq (.tuple [.str "few", .int 0]) (.tuple [.str "few", .int 0]) = some true := by decide +kernel
  have c3 : F_is_parking [.v (.tuple [.int 1, .int 0, .int 1])] s1 = some (bl true, s1) := asT (parking_eq (.tuple [.int 1, .int 0, .int 1]) s1 (fun ds e => by cases e; simp; omega)) (by decide +kernel)
  refine ⟨s1, ?_⟩
  array_get_dec
end K_roundswaps_k15_parkings_judged
namespace K_roundswaps_k15_parkings_judged
open PySem PySem.Spec PyProof.Rows L2 Pm
def at_ (i : Nat) : Stmt := PySem.Challenge.pw_roundswaps_k15_parkings_judged.main.body.getD i (.Pass ⟨0, 0, 0, 0⟩)
def dd (x : Str) (i : Nat) : He.DefD := ⟨(x, none), x, x, defArgs (at_ i), defBody (at_ i), defScope (at_ i), [], []⟩
def fn : List He.DefD := [dd "_law_source" 11, dd "_law_pick" 12, dd "_law_mixed" 14, dd "_law_row" 17, dd "few_place" 3, dd "parking_places" 5, dd "parking_paper" 6, dd "_law_of" 13, dd "_law_places" 18, dd "_law_few" 19, dd "is_whole" 1, dd "are_numbers" 2, dd "is_parking" 4, dd "_law_is_park" 16, dd "_law_is_int" 15, dd "_law_fault" 21, dd "_law_is_any" 20, dd "judge_few" 8, dd "are_places" 7, dd "judge_parking" 9, dd "law" 22]
def fa : List He.Fa := [.glo "_law_source", .glo "_law_pick", .glo "_law_mixed", .glo "_law_row", .glo "few_place", .glo "parking_places", .glo "parking_paper", .glo "_law_of", .glo "_law_places", .glo "_law_few", .glo "is_whole", .glo "are_numbers", .glo "is_parking", .glo "_law_is_park", .glo "_law_is_int", .glo "_law_fault", .glo "_law_is_any", .glo "judge_few", .glo "are_places", .glo "judge_parking", .glo "law", .free "len", .free "int", .free "abs", .free "max", .free "min", .free "sum", .free "all", .free "any", .free "list", .free "tuple", .free "sorted", .free "repr", .free "isinstance", .free "range", .free "enumerate", .free "bool", .free "str"]
abbrev R : PySem.W.OpenRow := PySem.W.OpenLaw.row PySem.Challenge.rw_roundswaps_k15_parkings_judged
def loose : List Str := (["is_whole", "are_numbers", "few_place", "is_parking", "parking_places", "parking_paper", "are_places", "judge_few", "judge_parking", "_law_source", "_law_pick", "_law_of", "_law_mixed", "_law_is_int", "_law_is_park", "_law_row", "_law_places", "_law_few", "_law_is_any", "_law_fault"] : List Str)
abbrev hk : PySem.W.Hook := He.hookD 4 fa fn
def ob (s : PySem.W.SharedT) : He.AlD := He.obsDG 4 fa fn (HandSHeadRun.getT s)
theorem ob_eq (s : PySem.W.SharedT) : ob s = hk.obs s.abs := He.obsDG_eq (HandSHeadRun.getT_eq s)
theorem run (w : World) : HandSHeadRun.RunEq R (PySem.W.view R.prog [22]) hk ob 4000 loose w := by
  intro os
  kernel_rfl
theorem sc__law_source : FnScope srcN ["script"] (defScope (at_ 11)) := ⟨rfl, rfl, rfl, by decide +kernel, rfl, by decide +kernel, by decide +kernel⟩
theorem ck__law_source : chkSrc (defScope (at_ 11)) (defBody (at_ 11)) = true := by decide +kernel
theorem sc__law_pick : FnScope N__law_pick ["source", "many"] (defScope (at_ 12)) := ⟨rfl, rfl, rfl, by decide +kernel, rfl, by decide +kernel, by decide +kernel⟩
theorem ck__law_pick : chkSs (defScope (at_ 12)) N__law_pick B__law_pick (defBody (at_ 12)) = true := by decide +kernel
theorem sc__law_mixed : FnScope N__law_mixed ["source", "things"] (defScope (at_ 14)) := ⟨rfl, rfl, rfl, by decide +kernel, rfl, by decide +kernel, by decide +kernel⟩
theorem ck__law_mixed : chkSs (defScope (at_ 14)) N__law_mixed B__law_mixed (defBody (at_ 14)) = true := by decide +kernel
theorem sc__law_row : FnScope N__law_row ["source", "m"] (defScope (at_ 17)) := ⟨rfl, rfl, rfl, by decide +kernel, rfl, by decide +kernel, by decide +kernel⟩
theorem ck__law_row : chkSs (defScope (at_ 17)) N__law_row B__law_row (defBody (at_ 17)) = true := by decide +kernel
theorem sc_few_place : FnScope N_few_place ["row"] (defScope (at_ 3)) := ⟨rfl, rfl, rfl, by decide +kernel, rfl, by decide +kernel, by decide +kernel⟩
theorem ck_few_place : chkSs (defScope (at_ 3)) N_few_place B_few_place (defBody (at_ 3)) = true := by decide +kernel
theorem sc_parking_places : FnScope N_parking_places ["row"] (defScope (at_ 5)) := ⟨rfl, rfl, rfl, by decide +kernel, rfl, by decide +kernel, by decide +kernel⟩
theorem ck_parking_places : chkSs (defScope (at_ 5)) N_parking_places B_parking_places (defBody (at_ 5)) = true := by decide +kernel
theorem sc_parking_paper : FnScope N_parking_paper ["row"] (defScope (at_ 6)) := ⟨rfl, rfl, rfl, by decide +kernel, rfl, by decide +kernel, by decide +kernel⟩
theorem ck_parking_paper : chkSs (defScope (at_ 6)) N_parking_paper B_parking_paper (defBody (at_ 6)) = true := by decide +kernel
theorem sc__law_of : FnScope N__law_of ["source", "some"] (defScope (at_ 13)) := ⟨rfl, rfl, rfl, by decide +kernel, rfl, by decide +kernel, by decide +kernel⟩
theorem ck__law_of : chkSs (defScope (at_ 13)) N__law_of B__law_of (defBody (at_ 13)) = true := by decide +kernel
theorem sc__law_places : FnScope N__law_places ["row"] (defScope (at_ 18)) := ⟨rfl, rfl, rfl, by decide +kernel, rfl, by decide +kernel, by decide +kernel⟩
theorem ck__law_places : chkSs (defScope (at_ 18)) N__law_places B__law_places (defBody (at_ 18)) = true := by decide +kernel
theorem sc__law_few : FnScope N__law_few ["row"] (defScope (at_ 19)) := ⟨rfl, rfl, rfl, by decide +kernel, rfl, by decide +kernel, by decide +kernel⟩
theorem ck__law_few : chkSs (defScope (at_ 19)) N__law_few B__law_few (defBody (at_ 19)) = true := by decide +kernel
theorem sc_is_whole : FnScope N_is_whole ["value"] (defScope (at_ 1)) := ⟨rfl, rfl, rfl, by decide +kernel, rfl, by decide +kernel, by decide +kernel⟩
theorem ck_is_whole : chkSs (defScope (at_ 1)) N_is_whole B_is_whole (defBody (at_ 1)) = true := by decide +kernel
theorem sc_are_numbers : FnScope N_are_numbers ["value"] (defScope (at_ 2)) := ⟨rfl, rfl, rfl, by decide +kernel, rfl, by decide +kernel, by decide +kernel⟩
theorem ck_are_numbers : chkSs (defScope (at_ 2)) N_are_numbers B_are_numbers (defBody (at_ 2)) = true := by decide +kernel
theorem sc_is_parking : FnScope N_is_parking ["value"] (defScope (at_ 4)) := ⟨rfl, rfl, rfl, by decide +kernel, rfl, by decide +kernel, by decide +kernel⟩
theorem ck_is_parking : chkSs (defScope (at_ 4)) N_is_parking B_is_parking (defBody (at_ 4)) = true := by decide +kernel
theorem sc__law_is_park : FnScope N__law_is_park ["row"] (defScope (at_ 16)) := ⟨rfl, rfl, rfl, by decide +kernel, rfl, by decide +kernel, by decide +kernel⟩
theorem ck__law_is_park : chkSs (defScope (at_ 16)) N__law_is_park B__law_is_park (defBody (at_ 16)) = true := by decide +kernel
theorem sc__law_is_int : FnScope N__law_is_int ["value"] (defScope (at_ 15)) := ⟨rfl, rfl, rfl, by decide +kernel, rfl, by decide +kernel, by decide +kernel⟩
theorem ck__law_is_int : chkSs (defScope (at_ 15)) N__law_is_int B__law_is_int (defBody (at_ 15)) = true := by decide +kernel
theorem sc__law_fault : FnScope N__law_fault ["row", "value"] (defScope (at_ 21)) := ⟨rfl, rfl, rfl, by decide +kernel, rfl, by decide +kernel, by decide +kernel⟩
theorem ck__law_fault : chkSs (defScope (at_ 21)) N__law_fault B__law_fault (defBody (at_ 21)) = true := by decide +kernel
theorem sc__law_is_any : FnScope N__law_is_any ["value"] (defScope (at_ 20)) := ⟨rfl, rfl, rfl, by decide +kernel, rfl, by decide +kernel, by decide +kernel⟩
theorem ck__law_is_any : chkSs (defScope (at_ 20)) N__law_is_any B__law_is_any (defBody (at_ 20)) = true := by decide +kernel
theorem sc_judge_few : FnScope N_judge_few ["row", "x"] (defScope (at_ 8)) := ⟨rfl, rfl, rfl, by decide +kernel, rfl, by decide +kernel, by decide +kernel⟩
theorem ck_judge_few : chkSs (defScope (at_ 8)) N_judge_few B_judge_few (defBody (at_ 8)) = true := by decide +kernel
theorem sc_are_places : FnScope N_are_places ["row", "places"] (defScope (at_ 7)) := ⟨rfl, rfl, rfl, by decide +kernel, rfl, by decide +kernel, by decide +kernel⟩
theorem ck_are_places : chkSs (defScope (at_ 7)) N_are_places B_are_places (defBody (at_ 7)) = true := by decide +kernel
theorem sc_judge_parking : FnScope N_judge_parking ["row", "value"] (defScope (at_ 9)) := ⟨rfl, rfl, rfl, by decide +kernel, rfl, by decide +kernel, by decide +kernel⟩
theorem ck_judge_parking : chkSs (defScope (at_ 9)) N_judge_parking B_judge_parking (defBody (at_ 9)) = true := by decide +kernel
theorem sc_law : FnScope N_law ["script"] (defScope (at_ 22)) := ⟨rfl, rfl, rfl, by decide +kernel, rfl, by decide +kernel, by decide +kernel⟩
theorem ck_law : chkLaw (defScope (at_ 22)) N_law 1 B_law (defBody (at_ 22)) = true := by decide +kernel
theorem facts {P : Program} {w : World} {K : PySem.W.Frag} {h : Heap} {mg : Str → Option Value} {f : Addr} (X : K.In h) (G : h.Ns mainGlobals mg) (hfa : mg ("law" : Str) = some (.ref f)) (c : He.SaysD fa fn K) (T : LawTrue N_law.length 1 B_law) :
    ∃ fd : FuncData, (∀ (s : Shared) (u : Value), BindsTo s fd ⟨[u], []⟩ [("script", u)]) ∧ ∀ base : Heap, K.In base → base.Ns mainGlobals mg → FnG P w K mg base 4 f fd ["script"] (spLaw K) := by
  have blt : ∀ y ∈ bltNames, mg y = none := by
    intro y hy
    have hy : y ∈ (["len", "int", "abs", "max", "min", "sum", "all", "any", "list", "tuple", "sorted", "repr", "isinstance", "range", "enumerate", "bool", "str"] : List Str) := hy
    simp only [List.mem_cons, List.not_mem_nil, or_false] at hy
    rcases hy with rfl | rfl | rfl | rfl | rfl | rfl | rfl | rfl | rfl | rfl | rfl | rfl | rfl | rfl | rfl | rfl | rfl
    · exact He.free_ok X G (c.fact 21 (f := .free "len") rfl)
    · exact He.free_ok X G (c.fact 22 (f := .free "int") rfl)
    · exact He.free_ok X G (c.fact 23 (f := .free "abs") rfl)
    · exact He.free_ok X G (c.fact 24 (f := .free "max") rfl)
    · exact He.free_ok X G (c.fact 25 (f := .free "min") rfl)
    · exact He.free_ok X G (c.fact 26 (f := .free "sum") rfl)
    · exact He.free_ok X G (c.fact 27 (f := .free "all") rfl)
    · exact He.free_ok X G (c.fact 28 (f := .free "any") rfl)
    · exact He.free_ok X G (c.fact 29 (f := .free "list") rfl)
    · exact He.free_ok X G (c.fact 30 (f := .free "tuple") rfl)
    · exact He.free_ok X G (c.fact 31 (f := .free "sorted") rfl)
    · exact He.free_ok X G (c.fact 32 (f := .free "repr") rfl)
    · exact He.free_ok X G (c.fact 33 (f := .free "isinstance") rfl)
    · exact He.free_ok X G (c.fact 34 (f := .free "range") rfl)
    · exact He.free_ok X G (c.fact 35 (f := .free "enumerate") rfl)
    · exact He.free_ok X G (c.fact 36 (f := .free "bool") rfl)
    · exact He.free_ok X G (c.fact 37 (f := .free "str") rfl)
  obtain ⟨fd__law_source, D__law_source⟩ := c.def_ 0 (d := dd "_law_source" 11) rfl
  have m__law_source := He.glo_ok X G (c.fact 0 (f := .glo "_law_source") rfl)
  obtain ⟨fd__law_pick, D__law_pick⟩ := c.def_ 1 (d := dd "_law_pick" 12) rfl
  have m__law_pick := He.glo_ok X G (c.fact 1 (f := .glo "_law_pick") rfl)
  obtain ⟨fd__law_mixed, D__law_mixed⟩ := c.def_ 2 (d := dd "_law_mixed" 14) rfl
  have m__law_mixed := He.glo_ok X G (c.fact 2 (f := .glo "_law_mixed") rfl)
  obtain ⟨fd__law_row, D__law_row⟩ := c.def_ 3 (d := dd "_law_row" 17) rfl
  have m__law_row := He.glo_ok X G (c.fact 3 (f := .glo "_law_row") rfl)
  obtain ⟨fd_few_place, D_few_place⟩ := c.def_ 4 (d := dd "few_place" 3) rfl
  have m_few_place := He.glo_ok X G (c.fact 4 (f := .glo "few_place") rfl)
  obtain ⟨fd_parking_places, D_parking_places⟩ := c.def_ 5 (d := dd "parking_places" 5) rfl
  have m_parking_places := He.glo_ok X G (c.fact 5 (f := .glo "parking_places") rfl)
  obtain ⟨fd_parking_paper, D_parking_paper⟩ := c.def_ 6 (d := dd "parking_paper" 6) rfl
  have m_parking_paper := He.glo_ok X G (c.fact 6 (f := .glo "parking_paper") rfl)
  obtain ⟨fd__law_of, D__law_of⟩ := c.def_ 7 (d := dd "_law_of" 13) rfl
  have m__law_of := He.glo_ok X G (c.fact 7 (f := .glo "_law_of") rfl)
  obtain ⟨fd__law_places, D__law_places⟩ := c.def_ 8 (d := dd "_law_places" 18) rfl
  have m__law_places := He.glo_ok X G (c.fact 8 (f := .glo "_law_places") rfl)
  obtain ⟨fd__law_few, D__law_few⟩ := c.def_ 9 (d := dd "_law_few" 19) rfl
  have m__law_few := He.glo_ok X G (c.fact 9 (f := .glo "_law_few") rfl)
  obtain ⟨fd_is_whole, D_is_whole⟩ := c.def_ 10 (d := dd "is_whole" 1) rfl
  have m_is_whole := He.glo_ok X G (c.fact 10 (f := .glo "is_whole") rfl)
  obtain ⟨fd_are_numbers, D_are_numbers⟩ := c.def_ 11 (d := dd "are_numbers" 2) rfl
  have m_are_numbers := He.glo_ok X G (c.fact 11 (f := .glo "are_numbers") rfl)
  obtain ⟨fd_is_parking, D_is_parking⟩ := c.def_ 12 (d := dd "is_parking" 4) rfl
  have m_is_parking := He.glo_ok X G (c.fact 12 (f := .glo "is_parking") rfl)
  obtain ⟨fd__law_is_park, D__law_is_park⟩ := c.def_ 13 (d := dd "_law_is_park" 16) rfl
  have m__law_is_park := He.glo_ok X G (c.fact 13 (f := .glo "_law_is_park") rfl)
  obtain ⟨fd__law_is_int, D__law_is_int⟩ := c.def_ 14 (d := dd "_law_is_int" 15) rfl
  have m__law_is_int := He.glo_ok X G (c.fact 14 (f := .glo "_law_is_int") rfl)
  obtain ⟨fd__law_fault, D__law_fault⟩ := c.def_ 15 (d := dd "_law_fault" 21) rfl
  have m__law_fault := He.glo_ok X G (c.fact 15 (f := .glo "_law_fault") rfl)
  obtain ⟨fd__law_is_any, D__law_is_any⟩ := c.def_ 16 (d := dd "_law_is_any" 20) rfl
  have m__law_is_any := He.glo_ok X G (c.fact 16 (f := .glo "_law_is_any") rfl)
  obtain ⟨fd_judge_few, D_judge_few⟩ := c.def_ 17 (d := dd "judge_few" 8) rfl
  have m_judge_few := He.glo_ok X G (c.fact 17 (f := .glo "judge_few") rfl)
  obtain ⟨fd_are_places, D_are_places⟩ := c.def_ 18 (d := dd "are_places" 7) rfl
  have m_are_places := He.glo_ok X G (c.fact 18 (f := .glo "are_places") rfl)
  obtain ⟨fd_judge_parking, D_judge_parking⟩ := c.def_ 19 (d := dd "judge_parking" 9) rfl
  have m_judge_parking := He.glo_ok X G (c.fact 19 (f := .glo "judge_parking") rfl)
  obtain ⟨fd_law, D_law⟩ := c.def_ 20 (d := dd "law" 22) rfl
  have m_law := He.glo_ok X G (c.fact 20 (f := .glo "law") rfl)
  have e := hfa.symm.trans m_law
  cases e
  refine ⟨fd_law, fun s v => FunD.bindsA (ps := ["script"]) D_law (fun _ _ _ _ _ _ us hl => match us, hl with | [_], _ => rfl) s [v] rfl, fun base _ _ => ?_⟩
  have o__law_source := src_fn (P := P) (w := w) (base := base) D__law_source sc__law_source blt ck__law_source
  have o__law_pick : CallOk P w K mg base 1 "_law_pick" F__law_pick := callOk_of' D__law_pick sc__law_pick m__law_pick (FunD.bindsN D__law_pick fun _ _ _ _ _ _ us hl => match us, hl with | [_, _], _ => rfl) rfl blt (fun p hp => (List.not_mem_nil hp).elim) (fun p hp => (List.not_mem_nil hp).elim) ck__law_pick
  have o__law_mixed : CallOk P w K mg base 2 "_law_mixed" F__law_mixed := callOk_of' D__law_mixed sc__law_mixed m__law_mixed (FunD.bindsN D__law_mixed fun _ _ _ _ _ _ us hl => match us, hl with | [_, _], _ => rfl) rfl blt ((AllC.cons (by decide) o__law_pick (AllC.nil)).get) (fun p hp => (List.not_mem_nil hp).elim) ck__law_mixed
  have o__law_row : CallOk P w K mg base 3 "_law_row" F__law_row := callOk_of' D__law_row sc__law_row m__law_row (FunD.bindsN D__law_row fun _ _ _ _ _ _ us hl => match us, hl with | [_, _], _ => rfl) rfl blt ((AllC.cons (by decide) o__law_pick (AllC.cons (by decide) o__law_pick (AllC.cons (by decide) o__law_mixed (AllC.cons (by decide) o__law_pick (AllC.nil))))).get) (fun p hp => (List.not_mem_nil hp).elim) ck__law_row
  have o_few_place : CallOk P w K mg base 1 "few_place" F_few_place := callOk_of' D_few_place sc_few_place m_few_place (FunD.bindsN D_few_place fun _ _ _ _ _ _ us hl => match us, hl with | [_], _ => rfl) rfl blt (fun p hp => (List.not_mem_nil hp).elim) (fun p hp => (List.not_mem_nil hp).elim) ck_few_place
  have o_parking_places : CallOk P w K mg base 1 "parking_places" F_parking_places := callOk_of' D_parking_places sc_parking_places m_parking_places (FunD.bindsN D_parking_places fun _ _ _ _ _ _ us hl => match us, hl with | [_], _ => rfl) rfl blt (fun p hp => (List.not_mem_nil hp).elim) (fun p hp => (List.not_mem_nil hp).elim) ck_parking_places
  have o_parking_paper : CallOk P w K mg base 2 "parking_paper" F_parking_paper := callOk_of' D_parking_paper sc_parking_paper m_parking_paper (FunD.bindsN D_parking_paper fun _ _ _ _ _ _ us hl => match us, hl with | [_], _ => rfl) rfl blt ((AllC.cons (by decide) o_few_place (AllC.cons (by decide) o_parking_places (AllC.nil))).get) (fun p hp => (List.not_mem_nil hp).elim) ck_parking_paper
  have o__law_of : CallOk P w K mg base 2 "_law_of" F__law_of := callOk_of' D__law_of sc__law_of m__law_of (FunD.bindsN D__law_of fun _ _ _ _ _ _ us hl => match us, hl with | [_, _], _ => rfl) rfl blt ((AllC.cons (by decide) o__law_pick (AllC.nil)).get) (fun p hp => (List.not_mem_nil hp).elim) ck__law_of
  have o__law_places : CallOk P w K mg base 1 "_law_places" F__law_places := callOk_of' D__law_places sc__law_places m__law_places (FunD.bindsN D__law_places fun _ _ _ _ _ _ us hl => match us, hl with | [_], _ => rfl) rfl blt (fun p hp => (List.not_mem_nil hp).elim) (fun p hp => (List.not_mem_nil hp).elim) ck__law_places
  have o__law_few : CallOk P w K mg base 1 "_law_few" F__law_few := callOk_of' D__law_few sc__law_few m__law_few (FunD.bindsN D__law_few fun _ _ _ _ _ _ us hl => match us, hl with | [_], _ => rfl) rfl blt (fun p hp => (List.not_mem_nil hp).elim) (fun p hp => (List.not_mem_nil hp).elim) ck__law_few
  have o_is_whole : CallOk P w K mg base 1 "is_whole" F_is_whole := callOk_of' D_is_whole sc_is_whole m_is_whole (FunD.bindsN D_is_whole fun _ _ _ _ _ _ us hl => match us, hl with | [_], _ => rfl) rfl blt (fun p hp => (List.not_mem_nil hp).elim) (fun p hp => (List.not_mem_nil hp).elim) ck_is_whole
  have o_are_numbers : CallOk P w K mg base 2 "are_numbers" F_are_numbers := callOk_of' D_are_numbers sc_are_numbers m_are_numbers (FunD.bindsN D_are_numbers fun _ _ _ _ _ _ us hl => match us, hl with | [_], _ => rfl) rfl blt ((AllC.cons (by decide) o_is_whole (AllC.nil)).get) (fun p hp => (List.not_mem_nil hp).elim) ck_are_numbers
  have o_is_parking : CallOk P w K mg base 3 "is_parking" F_is_parking := callOk_of' D_is_parking sc_is_parking m_is_parking (FunD.bindsN D_is_parking fun _ _ _ _ _ _ us hl => match us, hl with | [_], _ => rfl) rfl blt ((AllC.cons (by decide) o_are_numbers (AllC.cons (by decide) o_few_place (AllC.nil))).get) (fun p hp => (List.not_mem_nil hp).elim) ck_is_parking
  have o__law_is_park : CallOk P w K mg base 1 "_law_is_park" F__law_is_park := callOk_of' D__law_is_park sc__law_is_park m__law_is_park (FunD.bindsN D__law_is_park fun _ _ _ _ _ _ us hl => match us, hl with | [_], _ => rfl) rfl blt (fun p hp => (List.not_mem_nil hp).elim) (fun p hp => (List.not_mem_nil hp).elim) ck__law_is_park
  have o__law_is_int : CallOk P w K mg base 1 "_law_is_int" F__law_is_int := callOk_of' D__law_is_int sc__law_is_int m__law_is_int (FunD.bindsN D__law_is_int fun _ _ _ _ _ _ us hl => match us, hl with | [_], _ => rfl) rfl blt (fun p hp => (List.not_mem_nil hp).elim) (fun p hp => (List.not_mem_nil hp).elim) ck__law_is_int
  have o__law_fault : CallOk P w K mg base 2 "_law_fault" F__law_fault := callOk_of' D__law_fault sc__law_fault m__law_fault (FunD.bindsN D__law_fault fun _ _ _ _ _ _ us hl => match us, hl with | [_, _], _ => rfl) rfl blt ((AllC.cons (by decide) o__law_is_int (AllC.cons (by decide) o__law_is_int (AllC.nil))).get) (fun p hp => (List.not_mem_nil hp).elim) ck__law_fault
  have o__law_is_any : CallOk P w K mg base 2 "_law_is_any" F__law_is_any := callOk_of' D__law_is_any sc__law_is_any m__law_is_any (FunD.bindsN D__law_is_any fun _ _ _ _ _ _ us hl => match us, hl with | [_], _ => rfl) rfl blt ((AllC.cons (by decide) o__law_is_int (AllC.cons (by decide) o__law_is_park (AllC.nil))).get) (fun p hp => (List.not_mem_nil hp).elim) ck__law_is_any
  have o_judge_few : CallOk P w K mg base 1 "judge_few" F_judge_few := callOk_of' D_judge_few sc_judge_few m_judge_few (FunD.bindsN D_judge_few fun _ _ _ _ _ _ us hl => match us, hl with | [_, _], _ => rfl) rfl blt (fun p hp => (List.not_mem_nil hp).elim) (fun p hp => (List.not_mem_nil hp).elim) ck_judge_few
  have o_are_places : CallOk P w K mg base 1 "are_places" F_are_places := callOk_of' D_are_places sc_are_places m_are_places (FunD.bindsN D_are_places fun _ _ _ _ _ _ us hl => match us, hl with | [_, _], _ => rfl) rfl blt (fun p hp => (List.not_mem_nil hp).elim) (fun p hp => (List.not_mem_nil hp).elim) ck_are_places
  have o_judge_parking : CallOk P w K mg base 3 "judge_parking" F_judge_parking := callOk_of' D_judge_parking sc_judge_parking m_judge_parking (FunD.bindsN D_judge_parking fun _ _ _ _ _ _ us hl => match us, hl with | [_, _], _ => rfl) rfl blt ((AllC.cons (by decide) o_is_whole (AllC.cons (by decide) o_judge_few (AllC.cons (by decide) o_are_numbers (AllC.cons (by decide) o_are_places (AllC.nil))))).get) (fun p hp => (List.not_mem_nil hp).elim) ck_judge_parking
  exact law_fn (N := N_law) (cs := B_law) (i := 1) (k := 3) D_law sc_law blt o__law_source (FunD.bindsN D__law_source fun _ _ _ _ _ _ us hl => match us, hl with | [_], _ => rfl) D__law_source.kp m__law_source (by decide) ((AllC.cons (by decide) o__law_pick (AllC.cons (by decide) o__law_row (AllC.cons (by decide) o__law_few (AllC.cons (by decide) o_parking_paper (AllC.cons (by decide) o__law_is_park (AllC.cons (by decide) o__law_fault (AllC.cons (by decide) o_is_parking (AllC.cons (by decide) o_parking_places (AllC.cons (by decide) o__law_places (AllC.cons (by decide) o__law_places (AllC.cons (by decide) o__law_pick (AllC.cons (by decide) o__law_pick (AllC.cons (by decide) o__law_of (AllC.cons (by decide) o__law_places (AllC.cons (by decide) o__law_fault (AllC.cons (by decide) o_judge_parking (AllC.cons (by decide) o__law_mixed (AllC.cons (by decide) o_is_parking (AllC.cons (by decide) o__law_is_any (AllC.cons (by decide) o_parking_paper (AllC.cons (by decide) o_is_parking (AllC.nil)))))))))))))))))))))).get) (fun p hp => (List.not_mem_nil hp).elim) ck_law (by decide) T
end K_roundswaps_k15_parkings_judged
open PySem PySem.W PySem.Calls PyProof.Rows
theorem PySem.Challenge.cw_roundswaps_k15_parkings_judged_holds : PySem.Challenge.rw_roundswaps_k15_parkings_judged.Holds := by
  w_on; o_law
  refine HandSHeadRun.head_any (r := OpenLaw.row PySem.Challenge.rw_roundswaps_k15_parkings_judged) (q := view (OpenLaw.row PySem.Challenge.rw_roundswaps_k15_parkings_judged).prog [22]) (H := K_roundswaps_k15_parkings_judged.hk) (ob := K_roundswaps_k15_parkings_judged.ob) (M := 4000) (loose := K_roundswaps_k15_parkings_judged.loose) (d := HandSHeadRun.topDef (OpenLaw.row PySem.Challenge.rw_roundswaps_k15_parkings_judged).prog 22) (kwd := []) K_roundswaps_k15_parkings_judged.ob_eq
    (by kernel_rfl) (fun s => by kernel_rfl) K_roundswaps_k15_parkings_judged.run (by kernel_rfl) (by kernel_rfl) (by kernel_rfl) (by rfl) (by first | assumption | decide +kernel) (by decide +kernel) ⟨rfl, rfl, rfl, rfl, rfl, by decide +kernel⟩ ?hw ?hc
  case hw => w_witness2
  case hc =>
    refine Pm.walkG (l := PySem.Challenge.rw_roundswaps_k15_parkings_judged) (n := 63) (k := 4) rfl (by decide) (by kernel_rfl) ⟨rfl, by decide, by decide⟩ ?F
    intro w mg fl h Y G hmg0
    obtain ⟨K, KX, c⟩ := Y
    have hmg : mg ("law" : PySem.Str) = some (.ref fl) := by
      have e : (HandSHeadRun.topDef (OpenLaw.row PySem.Challenge.rw_roundswaps_k15_parkings_judged).prog 22).name = ("law" : PySem.Str) := by kernel_rfl
      rw [← e]
      exact hmg0
    obtain ⟨fd, hb, hF⟩ := K_roundswaps_k15_parkings_judged.facts (P := (PySem.Challenge.rw_roundswaps_k15_parkings_judged).prog) (w := w) KX G hmg c K_roundswaps_k15_parkings_judged.true_
    exact ⟨K, fd, KX, hb, hF⟩
