import PyProof.Rows.All
import Wide.All
import OpenK.AllK
import Wide.FinOn
import HandS.ForMost
import HandS.Walk
import KE.GoesMore
import KE.GoesEnum
import HandS.Zip
import HandS.OwnEq
import HandS.SlotsOwn
import HandS.Wide
import HandS.ClsMeth
import HandS.IsInst
import HandS.NoneIn
import HandS.Deep
import HandS.TupAny
import HandS.HeadHook1
import HandS.HeadHook2
import HandS.Head0
import HandS.Head1
import HandS.Head2
import HandS.HeadEnd
import KE.KStateDown
import PySem.Challenge.RW_colormatch_k33_whole_other_matches
import Lean
/-! The plain mathematics, no Python: sizes of rationals, colors, matches. -/
namespace CM
set_option maxHeartbeats 4000000
/-! ### rationals by top and bottom -/
/-- top and bottom below 2 ^ n -/
def Bd (n : Nat) (q : Rat) : Prop := q.num.natAbs < 2 ^ n ∧ q.den < 2 ^ n
theorem Bd.mono {n m : Nat} {q : Rat} (h : Bd n q) (l : n ≤ m) : Bd m q :=
  ⟨Nat.lt_of_lt_of_le h.1 (Nat.pow_le_pow_right (by decide) l), Nat.lt_of_lt_of_le h.2 (Nat.pow_le_pow_right (by decide) l)⟩
theorem denpos (q : Rat) : (0 : Int) < (q.den : Int) := by have := q.den_pos; omega
theorem divInt_num {t b : Int} (hb : 0 < b) : (Rat.divInt t b).num = t / (Int.gcd t b : Int) := by
  rw [Rat.num_divInt, Int.sign_eq_one_of_pos hb, Int.one_mul, Int.gcd_comm]
theorem divInt_den {t b : Int} (hb : 0 < b) : ((Rat.divInt t b).den : Int) = b / (Int.gcd t b : Int) := by
  rw [Rat.den_divInt, if_neg (by omega), Int.gcd_comm]
  have e : ((b.natAbs / t.gcd b : Nat) : Int) = (b.natAbs : Int) / (t.gcd b : Int) := Int.natCast_ediv _ _
  rw [e, Int.natAbs_of_nonneg (by omega)]
theorem gcd_pos {t b : Int} (hb : 0 < b) : 0 < Int.gcd t b := Int.gcd_pos_of_ne_zero_right _ (by omega)
theorem gcd_le {t b : Int} (hb : 0 < b) : Int.gcd t b ≤ b.natAbs := Nat.le_of_dvd (by omega) (Nat.gcd_dvd_right _ _)
theorem natAbs_div_le (t : Int) (g : Nat) : (t / (g : Int)).natAbs ≤ t.natAbs + 0 := by
  by_cases h : g = 0
  · subst h; simp
  · by_cases ht : 0 ≤ t
    · obtain ⟨n, rfl⟩ := Int.eq_ofNat_of_zero_le ht
      rw [← Int.natCast_ediv, Int.natAbs_natCast, Int.natAbs_natCast]
      exact Nat.div_le_self n g
    · have h1 : t / (g : Int) < 0 := Int.ediv_neg_of_neg_of_pos (by omega) (by omega)
      have h2 : t ≤ t / (g : Int) := by
        have h3 := Int.mul_ediv_add_emod t (g : Int)
        have h4 := Int.emod_nonneg t (show (g : Int) ≠ 0 by omega)
        have h4' := Int.emod_lt_of_pos t (show (0 : Int) < (g : Int) by omega)
        have h5 : t / (g : Int) ≥ t := by
          have h6 : (g : Int) * (t / (g : Int)) ≤ 1 * (t / (g : Int)) := Int.mul_le_mul_of_nonpos_right (by omega) (by omega)
          by_cases hz : t % (g : Int) = 0
          · omega
          · have : t / (g : Int) * 1 ≥ t := by
              have := Int.ediv_mul_le t (show (g : Int) ≠ 0 by omega)
              have h7 : t / (g : Int) ≥ t / 1 := by
                rw [ge_iff_le, Int.ediv_one]
                exact Int.le_ediv_of_mul_le (by omega) (by
                  have : t * (g : Int) ≤ t * 1 := Int.mul_le_mul_of_nonpos_left (by omega) (by omega)
                  omega)
              simpa using h7
            omega
        exact h5
      omega
theorem bd_divInt {t b : Int} {n : Nat} (hb : 0 < b) (h1 : t.natAbs < 2 ^ n) (h2 : b.natAbs < 2 ^ n) : Bd n (Rat.divInt t b) := by
  refine ⟨?_, ?_⟩
  · rw [divInt_num hb]
    exact Nat.lt_of_le_of_lt (natAbs_div_le _ _) h1
  · have e := divInt_den (t := t) hb
    have l := natAbs_div_le b (Int.gcd t b)
    rw [← e] at l
    simp only [Int.natAbs_natCast] at l
    omega
theorem lt_mul {a b : Int} {n m : Nat} (ha : a.natAbs < 2 ^ n) (hb : b.natAbs < 2 ^ m) : (a * b).natAbs < 2 ^ (n + m) := by
  rw [Int.natAbs_mul, Nat.pow_add]
  exact Nat.mul_lt_mul'' ha hb
theorem lt_add {a b : Int} {n : Nat} (ha : a.natAbs < 2 ^ n) (hb : b.natAbs < 2 ^ n) : (a + b).natAbs < 2 ^ (n + 1) := by
  rw [Nat.pow_succ]; omega
theorem lt_sub {a b : Int} {n : Nat} (ha : a.natAbs < 2 ^ n) (hb : b.natAbs < 2 ^ n) : (a - b).natAbs < 2 ^ (n + 1) := by
  rw [Nat.pow_succ]; omega
theorem lt_up {a : Int} {n m : Nat} (ha : a.natAbs < 2 ^ n) (l : n ≤ m) : a.natAbs < 2 ^ m := Nat.lt_of_lt_of_le ha (Nat.pow_le_pow_right (by decide) l)
theorem lt_den {q : Rat} {n : Nat} (h : Bd n q) : ((q.den : Int)).natAbs < 2 ^ n := by simpa using h.2
/-- the four operations, as the program reckons them -/
theorem q_add (p q : Rat) : Rat.divInt (p.num * (q.den : Int) + q.num * (p.den : Int)) ((p.den : Int) * (q.den : Int)) = p + q := by
  rw [Rat.add_def', ← Rat.divInt_ofNat, Int.natCast_mul]
theorem q_sub (p q : Rat) : Rat.divInt (p.num * (q.den : Int) - q.num * (p.den : Int)) ((p.den : Int) * (q.den : Int)) = p - q := by
  rw [Rat.sub_def', ← Rat.divInt_ofNat, Int.natCast_mul]
theorem q_mul (p q : Rat) : Rat.divInt (p.num * q.num) ((p.den : Int) * (q.den : Int)) = p * q := by
  rw [Rat.mul_def', ← Rat.divInt_ofNat, Int.natCast_mul]
theorem q_of (q : Rat) : Rat.divInt q.num (q.den : Int) = q := by
  rw [Rat.divInt_ofNat]
  exact Rat.mkRat_self q
theorem q_div (p q : Rat) : Rat.divInt (p.num * (q.den : Int)) ((p.den : Int) * q.num) = p / q := by
  have h : p / q = Rat.divInt p.num (p.den : Int) * (Rat.divInt q.num (q.den : Int))⁻¹ := by
    rw [q_of, q_of, Rat.div_def]
  rw [h, Rat.inv_divInt, Rat.divInt_mul_divInt]
theorem q_int (z : Int) : Rat.divInt z 1 = (z : Rat) := by
  have h := q_of (z : Rat)
  rw [Rat.num_intCast, Rat.den_intCast] at h
  exact h
theorem mulpos {p q : Rat} : (0 : Int) < (p.den : Int) * (q.den : Int) := Int.mul_pos (denpos p) (denpos q)
theorem bd_add {n m : Nat} {p q : Rat} (hp : Bd n p) (hq : Bd m q) : Bd (n + m + 1) (p + q) := by
  rw [← q_add]
  refine bd_divInt mulpos (lt_add (lt_mul hp.1 (lt_den hq)) ?_) (lt_up (lt_mul (lt_den hp) (lt_den hq)) (by omega))
  have := lt_mul hq.1 (lt_den hp)
  rwa [Nat.add_comm m n] at this
theorem bd_sub {n m : Nat} {p q : Rat} (hp : Bd n p) (hq : Bd m q) : Bd (n + m + 1) (p - q) := by
  rw [← q_sub]
  refine bd_divInt mulpos (lt_sub (lt_mul hp.1 (lt_den hq)) ?_) (lt_up (lt_mul (lt_den hp) (lt_den hq)) (by omega))
  have := lt_mul hq.1 (lt_den hp)
  rwa [Nat.add_comm m n] at this
theorem bd_mul {n m : Nat} {p q : Rat} (hp : Bd n p) (hq : Bd m q) : Bd (n + m) (p * q) := by
  rw [← q_mul]
  exact bd_divInt mulpos (lt_mul hp.1 hq.1) (lt_mul (lt_den hp) (lt_den hq))
theorem numpos {q : Rat} (h : 0 < q) : 0 < q.num := by
  have := (Rat.lt_iff 0 q).mp h
  simpa using this
theorem bd_div {n m : Nat} {p q : Rat} (hp : Bd n p) (hq : Bd m q) (h : 0 < q) : Bd (n + m) (p / q) := by
  rw [← q_div]
  exact bd_divInt (Int.mul_pos (denpos p) (numpos h)) (lt_mul hp.1 (lt_den hq)) (lt_mul (lt_den hp) hq.1)
theorem bd_int {n : Nat} {z : Int} (h : z.natAbs < 2 ^ n) (hn : 0 < n) : Bd n (z : Rat) := by
  refine ⟨by rw [Rat.num_intCast]; exact h, ?_⟩
  rw [Rat.den_intCast]
  exact Nat.one_lt_two_pow (by omega)
theorem bd_zero : Bd 1 0 := ⟨by decide, by decide⟩
theorem bd_one : Bd 1 1 := ⟨by decide, by decide⟩
/-- Euclid: the gcd is that of the rest -/
theorem gcd_step {a b : Int} (ha : 0 ≤ a) (hb : 0 < b) : Int.gcd b (a % b) = Int.gcd a b := by
  obtain ⟨n, rfl⟩ := Int.eq_ofNat_of_zero_le ha
  obtain ⟨m, rfl⟩ := Int.eq_ofNat_of_zero_le (Int.le_of_lt hb)
  rw [← Int.natCast_emod, Int.gcd_natCast_natCast, Int.gcd_natCast_natCast, Nat.gcd_comm m, ← Nat.gcd_rec, Nat.gcd_comm]
end CM
set_option Elab.async false
set_option linter.all false
set_option maxRecDepth 100000
set_option maxHeartbeats 4000000
/-! enumerate over a tuple. The layer walks enumerate over lists alone: this is the same road for tuples. -/
namespace Ly
open PySem PySem.Spec PyProof.Rows L2
/-- an enumerate that begins over the iterator at it; a tuple's iterator that begins -/
abbrev enumO (it : Addr) : Obj := ⟨.type "enumerate", Option.none, .fields #[.none, .bool false, .ref it, rawInt 0, .none, .none], #[]⟩
abbrev tupItO (l : Addr) : Obj := ⟨.type "tuple_iterator", Option.none, .fields #[.ref l, .int 0 0], #[]⟩
theorem enum_begin {v : Value} {ob : Obj} {G : Heap → Prop} (bg : Begins v ob G) :
    Meets (Builtin.«enumerate.__new__» ⟨[.type "enumerate", v], []⟩) fun _ R t => G t.heap ∧ R (.ok (.ret (.ref (t.heap.push ob).objs.size))) { t with heap := (t.heap.push ob).push (enumO t.heap.objs.size) } := by
  refine .of_wp fun pr w A R t both => ?_
  obtain ⟨hh, g, d, tk, out⟩ := t; obtain ⟨gv, fin⟩ := both
  have sub := sub_enumerate
  have start : ∀ {A' : Around} {E : Value → Shared → Prop} {Q : Value → Shared → Prop}, Q (.ref hh.objs.size) ⟨hh.push ob, g, d, tk, out⟩ → wpAny (model pr w) A' (pyIter v) Q E ⟨hh, g, d, tk, out⟩ :=
    fun z => bg.iter pr w _ _ ⟨hh, g, d, tk, out⟩ _ gv z
  wp_walk using start
  refine wpAny_stack_any fun _ => wpAny_pure ?_
  split
  · rename_i c _ _ _ _ _
    cases (c == Value.type "enumerate")
    · wp_walk using start
      exact ⟨_, rfl, fin⟩
    · wp_walk using start
      exact ⟨_, rfl, fin⟩
  · wp_walk using start
    exact ⟨_, rfl, fin⟩
/-- what enumerate(t) makes: the iterator and, behind it, the enumerate -/
theorem enum_of_tup {pr : Program} {w : World} {A : Around} {E Q : Value → Shared → Prop} {t : Shared} {l : Addr} {row : Array Value} (tl : t.heap.IsTuple l row)
    (k : ∀ h2, IsEnum h2 (t.heap.objs.size + 1) t.heap.objs.size 0 .none → h2.IsTupleIter t.heap.objs.size l 0 → (∀ b ob, t.heap.get? b = some ob → h2.get? b = some ob) → Q (.ref (t.heap.objs.size + 1)) { t with heap := h2 }) :
    wpAny (model pr w) A (PySem.call (.type "enumerate") [Value.ref l]) Q E t := by
  have n1 : (t.heap.push (tupItO l)).objs.size = t.heap.objs.size + 1 := Heap.size_push ..
  have made : IsEnum ((t.heap.push (tupItO l)).push (enumO t.heap.objs.size)) (t.heap.objs.size + 1) t.heap.objs.size 0 .none := n1 ▸ Heap.get?_push_size (t.heap.push (tupItO l)) (o := enumO t.heap.objs.size) rfl
  have more : ∀ (b : Addr) ob, t.heap.get? b = some ob → ((t.heap.push (tupItO l)).push (enumO t.heap.objs.size)).get? b = some ob := fun b ob x => Heap.get?_push_of_some _ (Heap.get?_push_of_some _ x)
  have iter0 := Heap.get?_push_of_some (enumO t.heap.objs.size) (Heap.get?_push_size t.heap (o := tupItO l) rfl)
  have run := enum_begin (begins_tuple l row)
  refine callType_new F.called_enumerate (by decide) (F.typeCall_enumerate_1 _) (F.newCall_enumerate_1 _) (fun ob => F.args_object_init_2 ob _) F.entry_enumerate_new run ⟨tl, ?_⟩
  show (∃ x, _) ∧ _
  rw [n1]
  exact ⟨⟨_, made, rfl⟩, k _ made ⟨_, iter0, rfl, rfl⟩ more⟩
/-- what a tuple gives in turns: a new pair each, the number and the item -/
def IteT (K : PySem.W.Frag) (a : Addr) : It where
  go i H := ∃ xs x, SqT K H a xs ∧ xs[i]? = some x
  yld i H v H' := ∃ T x, v = .ref T ∧ H T = none ∧ H' = upd H T (.tup [.int (i : Nat), x]) ∧ ∀ xs, SqT K H a xs → xs[i]? = some x
  stop i H := ∃ xs : List V, SqT K H a xs ∧ xs.length ≤ i
/-- a tuple stands apart from what is no tuple -/
theorem tup_apart {h : Heap} {a b : Addr} {row : Array Value} {ob : Obj} (ta : h.IsTuple a row) (hb : h.get? b = some ob) (n : ¬ Value.type "tuple" = ob.cls) : a ≠ b := fun z => by
  obtain ⟨oa, ga, ca, _⟩ := ta
  rw [z, hb] at ga
  cases ga
  exact n ca.symm
/-- the two objects behind such a loop -/
abbrev EnT (a e it : Addr) (i : Nat) (h : Heap) : Prop := (∃ was, IsEnum h e it ((i : Nat) : Int) was) ∧ h.IsTupleIter it a i ∧ e ≠ it
theorem EnT.apart {a e it : Addr} {i : Nat} {h : Heap} {row : Array Value} (st : EnT a e it i h) (ta : h.IsTuple a row) : a ≠ e ∧ a ≠ it := by
  obtain ⟨⟨was, en⟩, ⟨oi, gi, ci, _⟩, _⟩ := st
  refine ⟨tup_apart ta en ?_, tup_apart ta gi ?_⟩
  · show ¬ Value.type "tuple" = Value.type "enumerate"
    decide +kernel
  · rw [ci]
    decide +kernel
theorem two_of {e it b : Addr} (m : b ∈ [e, it]) : b = e ∨ b = it := by
  rcases List.mem_cons.mp m with z | m
  · exact .inl z
  · exact .inr (List.mem_singleton.mp m)
theorem turn_enumT {P : Program} {w : World} {K : PySem.W.Frag} {elts : List Expr} {kk : Nat} {tpos : Pos} (a e it : Addr) : Turn P w K (.Tuple elts kk tpos) (IteT K a) [e, it] e (EnT a e it) where
  mem := List.mem_cons_self ..
  obj i h st b m := by
    obtain ⟨⟨was, en⟩, ⟨oi, gi, _, di⟩, _⟩ := st
    rcases two_of m with rfl | rfl
    · exact ⟨_, en, fun v q => nomatch q⟩
    · refine ⟨oi, gi, fun v q => ?_⟩
      rw [di] at q
      cases q
  keep i h h2 st kp := by
    obtain ⟨⟨was, en⟩, ti, ab⟩ := st
    exact ⟨⟨was, kp e (List.mem_cons_self ..) _ en⟩, ti.at fun ob q => kp it (List.mem_cons_of_mem _ (List.mem_singleton.mpr rfl)) ob q, ab⟩
  item := by
    intro X eP ew eK calm i pins t σ H E I own st g
    subst eP ew eK
    obtain ⟨xs, x, sq, gx⟩ := g
    obtain ⟨row, vr, tp, _⟩ := I.tuple sq
    obtain ⟨ae, ai⟩ := st.apart tp
    obtain ⟨⟨was, en⟩, ti, ab⟩ := st
    obtain ⟨u, gu, ru⟩ := vr.get gx
    have le : e < t.heap.objs.size := Heap.lt_size en
    have li : it < t.heap.objs.size := by
      obtain ⟨_, gi, _⟩ := ti
      exact Heap.lt_size gi
    have lo : i < row.toArray.size := by simpa using (List.getElem?_eq_some_iff.mp gu).1
    refine wpAny_pyNext_enum_itemD (Draws.tuple (A := X.A.in1) (I.ok.hd calm) it a ai row.toArray) en ⟨ti, tp⟩ lo ab (by simp [ab, Ne.symm ae]) fun y h2 tk gy oy st2 gT _ kp => ?_
    have gy : row.toArray[i]? = some y := gy
    have gu2 : row.toArray[i]? = some u := by simpa using gu
    obtain rfl : u = y := Option.some.inj (gu2.symm.trans gy)
    refine ⟨_, rfl, wpAny_letOwnedTupleGo_enum (s := { t with heap := h2, toks := tk + 1 }) oy fun h3 en3 sb => ?_⟩
    let T := t.heap.objs.size
    let pr : HO := .tup [.int (i : Nat), x]
    have gT3 : h3.get? T = some { cls := .type "tuple", data := .seq #[.int i tk, u] } := Eq.trans (sb.2 _ (Nat.ne_of_gt le)) gT
    have okT : ObjOk X.prog X.w (upd H T pr) h3 T pr := ⟨by show 2 ≤ sizeLine; decide, [.int i tk, u], .cons ⟨_, rfl⟩ (.cons ru .nil), _, gT3, rfl, _, rfl⟩
    have stays : ∀ (b : Addr) ob, b ∉ [e, it] → t.heap.get? b = some ob → h3.get? b = some ob := fun b ob nb q => by
      have be : b ≠ e := fun z => nb (by rw [z]; exact List.mem_cons_self ..)
      have bi : b ≠ it := fun z => nb (by rw [z]; exact List.mem_cons_of_mem _ (List.mem_singleton.mpr rfl))
      exact (sb.2 b be).trans (kp b ob be bi q)
    refine ⟨.ref T, _, I.turnedNew (ch := [e, it]) (t' := tk + 1) stays own (Nat.le_refl _) okT, rfl, ⟨T, x, rfl, I.hok.fresh (Nat.le_refl _), rfl, fun ys sy => ?_⟩, ⟨⟨u, en3⟩, st2.1.at fun ob q => (sb.2 it (Ne.symm ab)).trans q, ab⟩, fun b m => ?_⟩
    · rw [I.tuple_inj sy sq]
      exact gx
    · have lb : b < T := (two_of m).elim (fun z => z ▸ le) fun z => z ▸ li
      rw [upd_ne (Nat.ne_of_lt lb)]
      exact (own b m).1
  done := by
    intro X eP ew eK calm i pins t σ H E I own st g
    subst eP ew eK
    obtain ⟨xs, sq, past⟩ := g
    obtain ⟨row, vr, tp, _⟩ := I.tuple sq
    obtain ⟨⟨was, en⟩, ti, ab⟩ := st
    obtain ⟨m0, m1, _, m3, m4, m5⟩ := own it (List.mem_cons_of_mem _ (List.mem_singleton.mpr rfl))
    have out : row.toArray[i]? = none := by
      have := vr.length
      simp
      omega
    have ty : t.TypeIs (.ref e) "enumerate" := ⟨_, en, rfl⟩
    unfold pyNext
    refine wpAny_bind (wpAny_attempt ?_)
    refine wpAny_callSpecial?_slot (name := Str.ofString "__next__") ty F.slot_enumerate_next ?_
    refine wpAny_call_entry F.slot_enumerate_next ty F.entry_enumerate_next ?_ (F.args_enumerate_next_1 _)
    refine wpAny_bind (m := field (.ref e) 2) (wpAny_field en rfl (x := .ref it) rfl ?_)
    refine wpAny_bind (wpAny_nextOf_tuple_end (I.ok.hd calm : X.A.in1.handled = none) ti tp out fun h2 ex keep2 stop => ?_)
    obtain ⟨ob, gs, cs⟩ := stop
    exact wpAny_bind (wpAny_isInstance (T := "StopIteration") (b := true) ⟨ob, gs, cs⟩ isSubtype_stop (wpAny_pure ⟨rfl, I.turned (t' := t.toks) (fun b o2 nb q => keep2 b o2 nb q) m0 m1 m3 m4 m5⟩))
  self A i t Q E st k := by
    obtain ⟨⟨was, en⟩, _⟩ := st
    exact wpAny_pyIter_enum en k
def iEnumT (K : PySem.W.Frag) (ta : TA) : TI := fun σ H R => ta σ H fun vs H1 => ∃ a xs, vs = [.ref a] ∧ SqT K H1 a xs ∧ R (IteT K a) H1
/-- for .., .. in enumerate(e) -/
theorem pi_enumT {X : Cx} {e : Expr} {ta : TA} {p pos tpos : Pos} {elts : List Expr} {kk : Nat} (gl : Gl X "enumerate") (free : X.mg "enumerate" = none) (pa : PA X [e] ta) (one : starEach [e] X.env = [(false, eval e X.env)] := by rfl) :
    PI X (.Tuple elts kk tpos) (.Call (.Name "enumerate" p) [e] [] pos) (iEnumT X.K ta) := by
  refine ⟨fun pins t σ H R I rd => ?_⟩
  refine Call_ (ld_blt I gl free boot_enumerate (PyProof.Rows.callWith_type1 (thn (pa.run pos pins t σ H _ I rd) fun us t1 ⟨vs, H1, I1, rs, got⟩ => ?_) one rfl))
  obtain ⟨a, xs, ev, sq, rest⟩ := got
  subst ev
  rcases rs with _ | ⟨r, none2⟩
  cases none2
  cases r
  obtain ⟨row, _, tp, _⟩ := I1.tuple sq
  refine enum_of_tup (show t1.heap.IsTuple a row.toArray from tp) fun h2 en ti keep2 => wpAny_pyIter_enum en ?_
  have I2 : Inv X pins σ H1 { t1 with heap := h2 } := I1.kept (t' := t1.toks) keep2
  refine ⟨t1.heap.objs.size + 1, [t1.heap.objs.size + 1, t1.heap.objs.size], _, _, H1, rfl, I2, turn_enumT a (t1.heap.objs.size + 1) t1.heap.objs.size, ⟨⟨.none, en⟩, ti, Nat.succ_ne_self _⟩, fun b m => ?_, rest⟩
  have nb : t1.heap.objs.size ≤ b := by
    rcases two_of m with z | z
    · exact z ▸ Nat.le_succ _
    · exact z ▸ Nat.le_refl _
  exact I1.fpOk nb (I1.hok.fresh nb)
theorem walk_enumT {K : PySem.W.Frag} {a : Addr} {xs : List V} : Walk (IteT K a) xs.length (fun H => SqT K H a xs) (YPair (fun i => some (.int (i : Nat))) (fun i => xs[i]?)) :=
  ⟨fun i _ lt sq => ⟨xs, xs[i], sq, List.getElem?_eq_getElem lt⟩, fun _ sq => ⟨xs, sq, Nat.le_refl _⟩, fun i H v H' _ sq ⟨T, x, ev, gT, eH, item⟩ => ⟨T, .int (i : Nat), x, ev, gT, eH, rfl, item xs sq⟩⟩
end Ly
set_option Elab.async false
set_option linter.all false
set_option maxRecDepth 100000
set_option maxHeartbeats 4000000
/-! A layer over the hand layer: what an expression, a block does, by facts that only grow. -/
namespace Ly
open PySem PySem.Spec PyProof.Rows L2
abbrev SS := L2.St
/-! ### facts and how heaps grow -/
abbrev HF := V → Hp → Prop
def NL (o : HO) : Prop := ∀ xs, o ≠ .lst xs
class Rel (R : Hp → Hp → Prop) : Prop where
  rf : ∀ H, R H H
  tr : ∀ {H H1 H2}, R H H1 → R H1 H2 → R H H2
  sm : ∀ {H H1}, Same H H1 → R H H1
  nl : ∀ {H H1 a o}, R H H1 → H a = some o → NL o → H1 a = some o
instance : Rel Same := ⟨Same.refl, Same.trans, id, fun e h _ => e _ _ h⟩
class Mo (R : Hp → Hp → Prop) (P : HF) : Prop where
  mo : ∀ {v H H1}, R H H1 → P v H → P v H1
def isV (x : V) : HF := fun v _ => v = x
abbrev isI (i : Int) : HF := isV (.int i)
abbrev isB (b : Bool) : HF := isV (.bl b)
def isIp (p : Int → Prop) : HF := fun v _ => ∃ i, p i ∧ v = .int i
def isBp (p : Bool → Prop) : HF := fun v _ => ∃ i, p i ∧ v = .bl i
def anyV : HF := fun _ _ => True
/-- item by item -/
def All2 {α : Type} (F : α → HF) (xs : List V) (as : List α) (H : Hp) : Prop := xs.length = as.length ∧ ∀ (i : Nat) x a, xs[i]? = some x → as[i]? = some a → F a x H
def tupOf {α : Type} (F : α → HF) (as : List α) : HF := fun v H => ∃ a xs, v = .ref a ∧ H a = some (.tup xs) ∧ All2 F xs as H
def lstOf {α : Type} (F : α → HF) (as : List α) : HF := fun v H => ∃ a xs, v = .ref a ∧ H a = some (.lst xs) ∧ All2 F xs as H
/-- a tuple of given facts, one an item -/
def tupF (Fs : List HF) : HF := tupOf id Fs
section
variable {R : Hp → Hp → Prop}
instance {x : V} : Mo R (isV x) := ⟨fun _ h => h⟩
instance {p : Int → Prop} : Mo R (isIp p) := ⟨fun _ h => h⟩
instance {p : Bool → Prop} : Mo R (isBp p) := ⟨fun _ h => h⟩
instance : Mo R anyV := ⟨fun _ h => h⟩
theorem nl_tup {xs : List V} : NL (.tup xs) := fun _ z => by cases z
theorem nl_ins {C dx : Addr} {fs : List (Str × V)} : NL (.ins C dx fs) := fun _ z => by cases z
theorem All2.mo {α : Type} {F : α → HF} [h : ∀ a, Mo R (F a)] {xs : List V} {as : List α} {H H1 : Hp} (e : R H H1) (q : All2 F xs as H) : All2 F xs as H1 := ⟨q.1, fun i x a h1 h2 => (h a).mo e (q.2 i x a h1 h2)⟩
theorem All2.nil {α : Type} {F : α → HF} {H : Hp} : All2 F [] [] H := ⟨rfl, fun i x a h => by simp at h⟩
theorem All2.cons {α : Type} {F : α → HF} {H : Hp} {x : V} {a : α} {xs : List V} {as : List α} (h : F a x H) (q : All2 F xs as H) : All2 F (x :: xs) (a :: as) H := by
  refine ⟨by rw [List.length_cons, List.length_cons, q.1], fun i y b h1 h2 => ?_⟩
  cases i with
  | zero =>
    simp at h1 h2
    subst h1; subst h2
    exact h
  | succ i => exact q.2 i y b (by simpa using h1) (by simpa using h2)
theorem All2.snoc {α : Type} {F : α → HF} {H : Hp} {x : V} {a : α} {xs : List V} {as : List α} (q : All2 F xs as H) (h : F a x H) : All2 F (xs ++ [x]) (as ++ [a]) H := by
  refine ⟨by simp [q.1], fun i y b h1 h2 => ?_⟩
  by_cases hi : i < xs.length
  · rw [List.getElem?_append_left hi] at h1
    rw [List.getElem?_append_left (by rw [← q.1]; exact hi)] at h2
    exact q.2 i y b h1 h2
  · have hi2 : ¬ i < as.length := by rw [← q.1]; exact hi
    rw [List.getElem?_append_right (by omega)] at h1
    rw [List.getElem?_append_right (by omega)] at h2
    have e1 : i - xs.length = 0 := by
      have := (List.getElem?_eq_some_iff.mp h1).1
      simp at this; omega
    rw [e1] at h1
    rw [show i - as.length = 0 by rw [← q.1]; exact e1] at h2
    simp at h1 h2
    subst h1; subst h2
    exact h
theorem All2.set {α : Type} {F : α → HF} {H : Hp} {x : V} {a : α} {xs : List V} {as : List α} (q : All2 F xs as H) (j : Nat) (h : F a x H) : All2 F (xs.set j x) (as.set j a) H := by
  refine ⟨by simp [q.1], fun i y b h1 h2 => ?_⟩
  by_cases hj : j = i
  · subst hj
    have l1 := (List.getElem?_eq_some_iff.mp h1).1
    have l2 := (List.getElem?_eq_some_iff.mp h2).1
    rw [List.length_set] at l1 l2
    rw [List.getElem?_set_self l1] at h1
    rw [List.getElem?_set_self l2] at h2
    cases h1; cases h2
    exact h
  · rw [List.getElem?_set_ne hj] at h1 h2
    exact q.2 i y b h1 h2
/-- the item's value, from the item's meaning -/
theorem All2.get {α : Type} {F : α → HF} {H : Hp} {xs : List V} {as : List α} (q : All2 F xs as H) {i : Nat} {a : α} (h : as[i]? = some a) : ∃ x, xs[i]? = some x ∧ F a x H := by
  have l := (List.getElem?_eq_some_iff.mp h).1
  have l2 : i < xs.length := by rw [q.1]; exact l
  exact ⟨xs[i], List.getElem?_eq_getElem l2, q.2 i _ a (List.getElem?_eq_getElem l2) h⟩
theorem All2.get' {α : Type} {F : α → HF} {H : Hp} {xs : List V} {as : List α} (q : All2 F xs as H) {i : Nat} {x : V} (h : xs[i]? = some x) : ∃ a, as[i]? = some a ∧ F a x H := by
  have l := (List.getElem?_eq_some_iff.mp h).1
  have l2 : i < as.length := by rw [← q.1]; exact l
  exact ⟨as[i], List.getElem?_eq_getElem l2, q.2 i x _ h (List.getElem?_eq_getElem l2)⟩
theorem All2.imp {α : Type} {F G : α → HF} {H : Hp} {xs : List V} {as : List α} (q : All2 F xs as H) (k : ∀ a x, a ∈ as → F a x H → G a x H) : All2 G xs as H :=
  ⟨q.1, fun i x a h1 h2 => k a x (List.mem_of_getElem? h2) (q.2 i x a h1 h2)⟩
instance {α : Type} {F : α → HF} {as : List α} [Rel R] [∀ a, Mo R (F a)] : Mo R (tupOf F as) := ⟨fun {v H H1} e h => by
  obtain ⟨a, xs, rfl, ha, q⟩ := h
  exact ⟨a, xs, rfl, Rel.nl e ha nl_tup, q.mo e⟩⟩
instance {α : Type} {F : α → HF} {as : List α} [∀ a, Mo Same (F a)] : Mo Same (lstOf F as) := ⟨fun {v H H1} e h => by
  obtain ⟨a, xs, rfl, ha, q⟩ := h
  exact ⟨a, xs, rfl, e _ _ ha, q.mo e⟩⟩
end
/-- facts of a list of values, one by one -/
def Fit : List HF → List V → Hp → Prop
  | [], vs, _ => vs = []
  | P :: Ps, vs, H => ∃ v r, vs = v :: r ∧ P v H ∧ Fit Ps r H
theorem Fit.len : ∀ {Ps : List HF} {vs : List V} {H : Hp}, Fit Ps vs H → vs.length = Ps.length
  | [], _, _, h => by rw [show _ = [] from h]; rfl
  | _ :: _, _, _, ⟨v, r, e, _, q⟩ => by rw [e, List.length_cons, List.length_cons, q.len]
theorem Fit.all2 : ∀ {Ps : List HF} {vs : List V} {H : Hp}, Fit Ps vs H → All2 id vs Ps H
  | [], _, _, h => by rw [show _ = [] from h]; exact .nil
  | _ :: _, _, _, ⟨v, r, e, p, q⟩ => by rw [e]; exact .cons p q.all2
/-! ### runs -/
def RE (X : Cx) (e : Expr) : TE := fun σ H Q => ∀ pins s, Inv X pins σ H s → wpAny (model X.prog X.w) X.A (eval e X.env) (EP X pins σ Q) X.xe s
def RT (X : Cx) (e : Expr) : TT := fun σ H Q => ∀ pins s, Inv X pins σ H s → wpAny (model X.prog X.w) X.A (isTrue e X.env (eval e X.env)) (TP X pins σ Q) X.xe s
def RA (X : Cx) (es : List Expr) : TA := fun σ H Q => ∀ pos pins s, Inv X pins σ H s → wpAny (model X.prog X.w) X.A (spliced (backTo pos (starEach es X.env))) (AP X pins σ Q) X.xe s
def RS (X : Cx) (st : Stmt) : TS := fun D σ H => ∀ pins s, Inv X pins σ H s → wpAny (model X.prog X.w) X.A (exec st X.env) (SP X pins D) X.xe s
def RSs (X : Cx) (st : List Stmt) : TS := fun D σ H => ∀ pins s, Inv X pins σ H s → wpAny (model X.prog X.w) X.A (execs st X.env) (SP X pins D) X.xe s
section
variable {X : Cx} {e : Expr} {es : List Expr} {st : Stmt} {sts : List Stmt}
theorem pe_re : PE X e (RE X e) := ⟨fun pins s σ H Q I h => h pins s I⟩
theorem pt_rt : PT X e (RT X e) := ⟨fun pins s σ H Q I h => h pins s I⟩
theorem pa_ra : PA X es (RA X es) := ⟨fun pos pins s σ H Q I h => h pos pins s I⟩
theorem ps_rs : PS X st (RS X st) := ⟨fun pins s σ H Q I h => h pins s I⟩
theorem pss_rs : PSs X sts (RSs X sts) := ⟨fun pins s σ H Q I h => h pins s I⟩
theorem RE.of {t : TE} {σ : SS} {H : Hp} {Q : VK} (h : PE X e t) (q : t σ H Q) : RE X e σ H Q := fun pins s I => h.run pins s σ H Q I q
theorem RT.of {t : TT} {σ : SS} {H : Hp} {Q : Bool → Hp → Prop} (h : PT X e t) (q : t σ H Q) : RT X e σ H Q := fun pins s I => h.run pins s σ H Q I q
theorem RA.of {t : TA} {σ : SS} {H : Hp} {Q : List V → Hp → Prop} (h : PA X es t) (q : t σ H Q) : RA X es σ H Q := fun pos pins s I => h.run pos pins s σ H Q I q
theorem RS.of {t : TS} {σ : SS} {H : Hp} {D : Ends} (h : PS X st t) (q : t D σ H) : RS X st D σ H := fun pins s I => h.run pins s σ H D I q
theorem RSs.of {t : TS} {σ : SS} {H : Hp} {D : Ends} (h : PSs X sts t) (q : t D σ H) : RSs X sts D σ H := fun pins s I => h.run pins s σ H D I q
/-- two statements: the first, then the rest -/
theorem RSs.cons {σ : SS} {H : Hp} {D : Ends} (h : RS X st { D with nx := RSs X sts D } σ H) : RSs X (st :: sts) D σ H := RSs.of (pss_cons ps_rs pss_rs) h
theorem RSs.nil {σ : SS} {H : Hp} {D : Ends} (h : D.nx σ H) : RSs X [] D σ H := RSs.of pss_nil h
end
/-! ### what an expression gives -/
variable {R : Hp → Hp → Prop} {X : Cx} {σ : SS} {H H' : Hp} {P P' Pa Pb Pc : HF} {D : Ends}
def EV (R : Hp → Hp → Prop) (X : Cx) (e : Expr) (σ : SS) (H : Hp) (P : HF) : Prop := ∀ H1, R H H1 → ∀ Q : VK, (∀ v H2, R H1 H2 → P v H2 → Q v H2) → RE X e σ H1 Q
def EA (R : Hp → Hp → Prop) (X : Cx) (es : List Expr) (σ : SS) (H : Hp) (Ps : List HF) : Prop := ∀ H1, R H H1 → ∀ Q : List V → Hp → Prop, (∀ v H2, R H1 H2 → Fit Ps v H2 → Q v H2) → RA X es σ H1 Q
def ET (R : Hp → Hp → Prop) (X : Cx) (e : Expr) (σ : SS) (H : Hp) (p : Bool → Prop) : Prop := ∀ H1, R H H1 → ∀ Q : Bool → Hp → Prop, (∀ v H2, R H1 H2 → p v → Q v H2) → RT X e σ H1 Q
section
variable [Rel R] {a b c : Expr} {es : List Expr} {pos p' apos : Pos} {x : Str}
theorem EV.mono {e : Expr} (r : R H H') (h : EV R X e σ H P) : EV R X e σ H' P := fun H1 r1 Q q => h H1 (Rel.tr r r1) Q q
theorem EV.imp {e : Expr} (h : EV R X e σ H P) (k : ∀ v H1, R H H1 → P v H1 → P' v H1) : EV R X e σ H P' := fun H1 r Q q => h H1 r Q fun v H2 r2 p => q v H2 r2 (k v H2 (Rel.tr r r2) p)
theorem ET.mono {e : Expr} {p : Bool → Prop} (r : R H H') (h : ET R X e σ H p) : ET R X e σ H' p := fun H1 r1 Q q => h H1 (Rel.tr r r1) Q q
theorem ET.imp {e : Expr} {p p1 : Bool → Prop} (h : ET R X e σ H p) (k : ∀ v, p v → p1 v) : ET R X e σ H p1 := fun H1 r Q q => h H1 r Q fun v H2 r2 p => q v H2 r2 (k v p)
theorem ev_var (i : Nat) {v : V} (hs : σ[i]? = some (some v)) (hP : P v H) [Mo R P] (hN : X.N[i]? = some x := by rfl) (hv : Vis X.env.scope x := by first | exact Or.inl rfl | exact Or.inr (Or.inl rfl) | exact Or.inr (Or.inr rfl))
    (hd : (x == ("__debug__" : Str)) = false := by decide) (hcd : (x == ("__classdict__" : Str)) = false := by decide) : EV R X (.Name x pos) σ H P :=
  fun H1 r Q q => RE.of (pe_var hN hv hd hcd) ⟨v, hs, q v H1 (Rel.rf _) (Mo.mo r hP)⟩
theorem ev_vv (i : Nat) {v : V} (hs : σ[i]? = some (some v) := by rfl) (hN : X.N[i]? = some x := by rfl) (hv : Vis X.env.scope x := by first | exact Or.inl rfl | exact Or.inr (Or.inl rfl) | exact Or.inr (Or.inr rfl))
    (hd : (x == ("__debug__" : Str)) = false := by decide) (hcd : (x == ("__classdict__" : Str)) = false := by decide) : EV R X (.Name x pos) σ H (isV v) := ev_var i hs rfl hN hv hd hcd
theorem ev_int {i : Int} {j : Nat} : EV R X (.Constant (.int i) j pos) σ H (isI i) := fun H1 r Q q => RE.of pe_int (q _ _ (Rel.rf _) rfl)
theorem ev_bl {i : Bool} {j : Nat} : EV R X (.Constant (.bool i) j pos) σ H (isB i) := fun H1 r Q q => RE.of pe_bl (q _ _ (Rel.rf _) rfl)
theorem ev_non {j : Nat} : EV R X (.Constant .none j pos) σ H (isV .non) := fun H1 r Q q => RE.of pe_non (q _ _ (Rel.rf _) rfl)
/-- any rule for an expression -/
theorem EV.by {e : Expr} {t : TE} (h : PE X e t) (q : ∀ H1, R H H1 → ∀ Q : VK, (∀ v H2, R H1 H2 → P v H2 → Q v H2) → t σ H1 Q) : EV R X e σ H P := fun H1 r Q k => RE.of h (q H1 r Q k)
theorem ET.by {e : Expr} {p : Bool → Prop} {t : TT} (h : PT X e t) (q : ∀ H1, R H H1 → ∀ Q : Bool → Hp → Prop, (∀ v H2, R H1 H2 → p v → Q v H2) → t σ H1 Q) : ET R X e σ H p := fun H1 r Q k => RT.of h (q H1 r Q k)
/-- two parts, one behind the other -/
theorem two {Pa Pb : HF} (ha : EV R X a σ H Pa) (hb : EV R X b σ H Pb) [Mo R Pa] {H1 : Hp} (r : R H H1) {Q : V → V → Hp → Prop} (k : ∀ x y H2, R H1 H2 → Pa x H2 → Pb y H2 → Q x y H2) : RE X a σ H1 fun x H2 => RE X b σ H2 fun y H3 => Q x y H3 :=
  ha H1 r _ fun x H2 r2 px => hb H2 (Rel.tr r r2) _ fun y H3 r3 py => k x y H3 (Rel.tr r2 r3) (Mo.mo r3 px) py
theorem ev_op {op : Operator} {rd : R2} (ho : OpR X (binaryOp op) rd) (ha : EV R X a σ H Pa) (hb : EV R X b σ H Pb) [Mo R Pa]
    (k : ∀ x y H1, R H H1 → Pa x H1 → Pb y H1 → ∀ Q : VK, (∀ v H2, R H1 H2 → P v H2 → Q v H2) → rd x y H1 Q) : EV R X (.BinOp a op b pos) σ H P :=
  EV.by (pe_op ho pe_re pe_re) fun H1 r Q q => two ha hb r fun x y H2 r2 px py => k x y H2 (Rel.tr r r2) px py Q fun v H3 r3 p => q v H3 (Rel.tr r2 r3) p
theorem ev_cmp {op : CmpOp} {rd : R2} (ho : OpR X (compareOp op) rd) (ha : EV R X a σ H Pa) (hb : EV R X b σ H Pb) [Mo R Pa]
    (k : ∀ x y H1, R H H1 → Pa x H1 → Pb y H1 → ∀ Q : VK, (∀ v H2, R H1 H2 → P v H2 → Q v H2) → rd x y H1 Q) (hm : behindInMarks op b = false := by first | exact nomark _ | rfl) : EV R X (.Compare a [op] [b] pos) σ H P :=
  EV.by (pe_cmpR ho pe_re pe_re hm) fun H1 r Q q => two ha hb r fun x y H2 r2 px py => k x y H2 (Rel.tr r r2) px py Q fun v H3 r3 p => q v H3 (Rel.tr r2 r3) p
theorem et_cmp {op : CmpOp} {rd : R2} {p : Bool → Prop} (ho : OpR X (compareOp op) rd) (ha : EV R X a σ H Pa) (hb : EV R X b σ H Pb) [Mo R Pa]
    (k : ∀ x y H1, R H H1 → Pa x H1 → Pb y H1 → ∀ Q : VK, (∀ v H2, R H1 H2 → isBp p v H2 → Q v H2) → rd x y H1 Q) (hm : behindInMarks op b = false := by first | exact nomark _ | rfl) : ET R X (.Compare a [op] [b] pos) σ H p :=
  ET.by (pt_cmpR ho pe_re pe_re hm) fun H1 r Q q => two ha hb r fun x y H2 r2 px py => k x y H2 (Rel.tr r r2) px py _ fun v H3 r3 ⟨c, hp, e⟩ => ⟨c, e, q c H3 (Rel.tr r2 r3) hp⟩
/-- an expression whose value is True or False, as a test -/
theorem et_val {e : Expr} {p : Bool → Prop} (h : EV R X e σ H (isBp p)) (he : ∀ whole, isTrue e X.env whole = (do let v ← whole; standAt e.pos; holding [v] (truthy v)) := by intro _; rfl) : ET R X e σ H p :=
  ET.by (pt_val pe_re he) fun H1 r Q q => h H1 r _ fun v H2 r2 ⟨c, hp, e⟩ => ⟨c, e, q c H2 r2 hp⟩
theorem ev_b {e : Expr} {bb : Bool} (h : EV R X e σ H (isB bb)) : EV R X e σ H (isBp (· = bb)) := h.imp fun v H1 _ p => ⟨bb, rfl, p⟩
theorem ev_bp {e : Expr} {bb : Bool} (h : EV R X e σ H (isBp (· = bb))) : EV R X e σ H (isB bb) := h.imp fun v H1 _ ⟨c, hp, e⟩ => by rw [e, hp]; rfl
theorem ev_ip {e : Expr} {i : Int} (h : EV R X e σ H (isI i)) : EV R X e σ H (isIp (· = i)) := h.imp fun v H1 _ p => ⟨i, rfl, p⟩
theorem ev_pi {e : Expr} {i : Int} (h : EV R X e σ H (isIp (· = i))) : EV R X e σ H (isI i) := h.imp fun v H1 _ ⟨c, hp, e⟩ => by rw [e, hp]; rfl
/-! ints -/
theorem ev_i0 {op : Operator} {g : Int → Int → Int} {i j k : Int} (ho : OpR X (binaryOp op) (rI0 fun i j => .int (g i j))) (ha : EV R X a σ H (isI i)) (hb : EV R X b σ H (isI j)) (hk : g i j = k := by rfl) : EV R X (.BinOp a op b pos) σ H (isI k) :=
  ev_op ho ha hb fun x y H1 r px py Q q => ⟨i, j, px, py, q _ _ (Rel.rf _) (by subst hk; rfl)⟩
theorem ev_i1 {op : Operator} {C : Int → Int → Prop} {g : Int → Int → Int} {i j k : Int} (ho : OpR X (binaryOp op) (rI C fun i j => .int (g i j))) (hc : C i j) (ha : EV R X a σ H (isI i)) (hb : EV R X b σ H (isI j)) (hk : g i j = k := by rfl) : EV R X (.BinOp a op b pos) σ H (isI k) :=
  ev_op ho ha hb fun x y H1 r px py Q q => ⟨i, j, px, py, hc, q _ _ (Rel.rf _) (by subst hk; rfl)⟩
theorem ev_add {i j : Int} (ha : EV R X a σ H (isI i)) (hb : EV R X b σ H (isI j)) : EV R X (.BinOp a .Add b pos) σ H (isI (i + j)) := ev_i0 op_add ha hb
theorem ev_sub {i j : Int} (ha : EV R X a σ H (isI i)) (hb : EV R X b σ H (isI j)) : EV R X (.BinOp a .Sub b pos) σ H (isI (i - j)) := ev_i0 op_sub ha hb
theorem ev_mul {i j : Int} {n m : Nat} (hi : i.natAbs < 2 ^ n) (hj : j.natAbs < 2 ^ m) (h : (decide (0 < n) && (decide (0 < m) && decide (n + m ≤ 1000000))) = true) (ha : EV R X a σ H (isI i)) (hb : EV R X b σ H (isI j)) : EV R X (.BinOp a .Mult b pos) σ H (isI (i * j)) :=
  ev_i1 op_mulW (by
    simp only [Bool.and_eq_true, decide_eq_true_eq] at h
    exact wide_mul hi hj h.1 h.2.1 h.2.2) ha hb
theorem ev_mulS {i j : Int} (hi : -(2 ^ 64) < i ∧ i < 2 ^ 64) (ha : EV R X a σ H (isI i)) (hb : EV R X b σ H (isI j)) : EV R X (.BinOp a .Mult b pos) σ H (isI (i * j)) := ev_i1 op_mul (.inl hi) ha hb
/-- .. by properties -/
theorem ev_i0p {op : Operator} {g : Int → Int → Int} {p q r : Int → Prop} (ho : OpR X (binaryOp op) (rI0 fun i j => .int (g i j))) (ha : EV R X a σ H (isIp p)) (hb : EV R X b σ H (isIp q)) (hk : ∀ i j, p i → q j → r (g i j)) : EV R X (.BinOp a op b pos) σ H (isIp r) :=
  ev_op ho ha hb fun x y H1 _ ⟨i, pi, ei⟩ ⟨j, pj, ej⟩ Q k => ⟨i, j, ei, ej, k _ _ (Rel.rf _) ⟨_, hk i j pi pj, rfl⟩⟩
theorem ev_i1p {op : Operator} {C : Int → Int → Prop} {g : Int → Int → Int} {p q r : Int → Prop} (ho : OpR X (binaryOp op) (rI C fun i j => .int (g i j))) (ha : EV R X a σ H (isIp p)) (hb : EV R X b σ H (isIp q)) (hk : ∀ i j, p i → q j → C i j ∧ r (g i j)) : EV R X (.BinOp a op b pos) σ H (isIp r) :=
  ev_op ho ha hb fun x y H1 _ ⟨i, pi, ei⟩ ⟨j, pj, ej⟩ Q k => ⟨i, j, ei, ej, (hk i j pi pj).1, k _ _ (Rel.rf _) ⟨_, (hk i j pi pj).2, rfl⟩⟩
/-- comparisons of ints -/
theorem ev_c0 {op : CmpOp} {g : Int → Int → Bool} {i j : Int} (ho : OpR X (compareOp op) (rI0 fun i j => .bl (g i j))) (ha : EV R X a σ H (isI i)) (hb : EV R X b σ H (isI j)) (hm : behindInMarks op b = false := by exact nomark _) : EV R X (.Compare a [op] [b] pos) σ H (isB (g i j)) :=
  ev_cmp ho ha hb (fun x y H1 r px py Q q => ⟨i, j, px, py, q _ _ (Rel.rf _) rfl⟩) hm
theorem et_c0 {op : CmpOp} {g : Int → Int → Bool} {i j : Int} (ho : OpR X (compareOp op) (rI0 fun i j => .bl (g i j))) (ha : EV R X a σ H (isI i)) (hb : EV R X b σ H (isI j)) (hm : behindInMarks op b = false := by exact nomark _) : ET R X (.Compare a [op] [b] pos) σ H (· = g i j) :=
  et_cmp ho ha hb (fun x y H1 r px py Q q => ⟨i, j, px, py, q _ _ (Rel.rf _) ⟨_, rfl, rfl⟩⟩) hm
theorem et_c0p {op : CmpOp} {g : Int → Int → Bool} {p q : Int → Prop} {t : Bool → Prop} (ho : OpR X (compareOp op) (rI0 fun i j => .bl (g i j))) (ha : EV R X a σ H (isIp p)) (hb : EV R X b σ H (isIp q)) (hk : ∀ i j, p i → q j → t (g i j)) (hm : behindInMarks op b = false := by exact nomark _) : ET R X (.Compare a [op] [b] pos) σ H t :=
  et_cmp ho ha hb (fun x y H1 _ ⟨i, pi, ei⟩ ⟨j, pj, ej⟩ Q k => ⟨i, j, ei, ej, k _ _ (Rel.rf _) ⟨_, hk i j pi pj, rfl⟩⟩) hm
/-- == and != of flat values -/
theorem ev_eq {u v : V} (ha : EV R X a σ H (isV u)) (hb : EV R X b σ H (isV v)) (hs : scal u v = true := by rfl) (hm : behindInMarks .Eq b = false := by exact nomark _) : EV R X (.Compare a [.Eq] [b] pos) σ H (isB (decide (u = v))) :=
  ev_cmp op_eq ha hb (fun x y H1 r px py Q q => by
    cases px; cases py
    exact ⟨hs, q _ _ (Rel.rf _) rfl⟩) hm
theorem et_eq {u v : V} (ha : EV R X a σ H (isV u)) (hb : EV R X b σ H (isV v)) (hs : scal u v = true := by rfl) (hm : behindInMarks .Eq b = false := by exact nomark _) : ET R X (.Compare a [.Eq] [b] pos) σ H (· = decide (u = v)) :=
  et_cmp op_eq ha hb (fun x y H1 r px py Q q => by
    cases px; cases py
    exact ⟨hs, q _ _ (Rel.rf _) ⟨_, rfl, rfl⟩⟩) hm
theorem et_ne {u v : V} (ha : EV R X a σ H (isV u)) (hb : EV R X b σ H (isV v)) (hs : scal u v = true := by rfl) (hm : behindInMarks .NotEq b = false := by exact nomark _) : ET R X (.Compare a [.NotEq] [b] pos) σ H (· = !decide (u = v)) :=
  et_cmp op_ne ha hb (fun x y H1 r px py Q q => by
    cases px; cases py
    exact ⟨hs, q _ _ (Rel.rf _) ⟨_, rfl, rfl⟩⟩) hm
theorem et_eqp {p q : Int → Prop} {t : Bool → Prop} (ha : EV R X a σ H (isIp p)) (hb : EV R X b σ H (isIp q)) (hk : ∀ i j, p i → q j → t (decide (i = j))) (hm : behindInMarks .Eq b = false := by exact nomark _) : ET R X (.Compare a [.Eq] [b] pos) σ H t :=
  et_cmp op_eq ha hb (fun x y H1 r ⟨i, pi, ei⟩ ⟨j, pj, ej⟩ Q k => by
    cases ei; cases ej
    exact ⟨rfl, k _ _ (Rel.rf _) ⟨_, (by
      have := hk i j pi pj
      have e : decide (V.int i = V.int j) = decide (i = j) := by rw [dec_int, Bool.beq_eq_decide_eq]
      rw [e]; exact this), rfl⟩⟩) hm
/-! and, or, not, conditional expressions -/
theorem et_not {p : Bool → Prop} (h : ET R X a σ H p) : ET R X (.UnaryOp .Not a pos) σ H (fun b => p (!b)) :=
  ET.by (pt_not pt_rt) fun H1 r Q q => h H1 r _ fun v H2 r2 p => q (!v) H2 r2 (by rw [Bool.not_not]; exact p)
/-- and, or as tests: PW's -/
def RW (X : Cx) (e : Expr) : TT := fun σ H Q => ∀ whole pins s, Inv X pins σ H s → wpAny (model X.prog X.w) X.A (isTrue e X.env whole) (TP X pins σ Q) X.xe s
theorem pw_rw {e : Expr} : PW X e (RW X e) := ⟨fun wh pins s σ H Q I h => h wh pins s I⟩
def EW (R : Hp → Hp → Prop) (X : Cx) (e : Expr) (σ : SS) (H : Hp) (p : Bool → Prop) : Prop := ∀ H1, R H H1 → ∀ Q : Bool → Hp → Prop, (∀ v H2, R H1 H2 → p v → Q v H2) → RW X e σ H1 Q
theorem EW.by {e : Expr} {p : Bool → Prop} {t : TT} (h : PW X e t) (q : ∀ H1, R H H1 → ∀ Q : Bool → Hp → Prop, (∀ v H2, R H1 H2 → p v → Q v H2) → t σ H1 Q) : EW R X e σ H p := fun H1 r Q k => fun wh pins s I => h.run wh pins s σ H1 Q I (q H1 r Q k)
theorem et_w {e : Expr} {p : Bool → Prop} (h : EW R X e σ H p) : ET R X e σ H p := ET.by (pw_rw.pt) h
theorem ew_and1 {p : Bool → Prop} (h : ET R X a σ H p) : EW R X (.BoolOp .And [a] pos) σ H p := EW.by (pw_and1 pt_rt) h
theorem ew_or1 {p : Bool → Prop} (h : ET R X a σ H p) : EW R X (.BoolOp .Or [a] pos) σ H p := EW.by (pw_or1 pt_rt) h
theorem ew_and {p q t : Bool → Prop} (ha : ET R X a σ H p) (hb : p true → EW R X (.BoolOp .And (b :: es) pos) σ H q) (h0 : p false → t false) (h1 : ∀ v, p true → q v → t v) : EW R X (.BoolOp .And (a :: b :: es) pos) σ H t :=
  EW.by (pw_and pt_rt pw_rw) fun H1 r Q k => ha H1 r _ fun v H2 r2 pv => by
    cases v with
    | true =>
      show RW X (.BoolOp .And (b :: es) pos) σ H2 Q
      exact hb pv H2 (Rel.tr r r2) Q fun v H3 r3 qv => k v H3 (Rel.tr r2 r3) (h1 v pv qv)
    | false => exact k false H2 r2 (h0 pv)
theorem ew_or {p q t : Bool → Prop} (ha : ET R X a σ H p) (hb : p false → EW R X (.BoolOp .Or (b :: es) pos) σ H q) (h0 : p true → t true) (h1 : ∀ v, p false → q v → t v) : EW R X (.BoolOp .Or (a :: b :: es) pos) σ H t :=
  EW.by (pw_or pt_rt pw_rw) fun H1 r Q k => ha H1 r _ fun v H2 r2 pv => by
    cases v with
    | false =>
      show RW X (.BoolOp .Or (b :: es) pos) σ H2 Q
      exact hb pv H2 (Rel.tr r r2) Q fun v H3 r3 qv => k v H3 (Rel.tr r2 r3) (h1 v pv qv)
    | true => exact k true H2 r2 (h0 pv)
/-- and as a value -/
theorem ev_one {op : BoolOp} (h : EV R X a σ H P) : EV R X (.BoolOp op [a] pos) σ H P := EV.by (pe_one pe_re) h
theorem ev_and {u v : Bool} (ha : EV R X a σ H (isB u)) (hb : u = true → EV R X (.BoolOp .And (b :: es) pos) σ H (isB v)) : EV R X (.BoolOp .And (a :: b :: es) pos) σ H (isB (u && v)) :=
  EV.by (pe_and pe_re pe_re) fun H1 r Q k => ha H1 r _ fun x H2 r2 px => ⟨u, px, by
    cases u with
    | true =>
      show RE X (.BoolOp .And (b :: es) pos) σ H2 Q
      exact hb rfl H2 (Rel.tr r r2) Q fun w H3 r3 pw => k w H3 (Rel.tr r2 r3) pw
    | false => exact k _ H2 r2 rfl⟩
theorem ev_not {u : Bool} (ha : EV R X a σ H (isB u)) : EV R X (.UnaryOp .Not a pos) σ H (isB (!u)) :=
  EV.by (pe_not pe_re) fun H1 r Q k => ha H1 r _ fun x H2 r2 px => ⟨u, px, k _ H2 r2 rfl⟩
theorem ev_ifx {p : Bool → Prop} (hc : ET R X c σ H p) (ha : p true → EV R X a σ H P) (hb : p false → EV R X b σ H P) : EV R X (.IfExp c a b pos) σ H P :=
  EV.by (pe_ifExp pt_rt pe_re pe_re) fun H1 r Q k => hc H1 r _ fun v H2 r2 pv => by
    cases v with
    | true =>
      show RE X a σ H2 Q
      exact ha pv H2 (Rel.tr r r2) Q fun w H3 r3 pw => k w H3 (Rel.tr r2 r3) pw
    | false =>
      show RE X b σ H2 Q
      exact hb pv H2 (Rel.tr r r2) Q fun w H3 r3 pw => k w H3 (Rel.tr r2 r3) pw
/-! arguments, displays -/
theorem ea_nil : EA R X [] σ H [] := fun H1 r Q k => RA.of pa_nil (k _ _ (Rel.rf _) rfl)
instance fit_mo_nil : Mo R (fun (_ : V) (_ : Hp) => True) := ⟨fun _ h => h⟩
theorem ea_cons {e : Expr} {Ps : List HF} (ha : EV R X e σ H P) (hr : EA R X es σ H Ps) [Mo R P] (hs : starEach (e :: es) X.env = (false, eval e X.env) :: starEach es X.env := by rfl) : EA R X (e :: es) σ H (P :: Ps) := fun H1 r Q k =>
  RA.of (pa_cons pe_re pa_ra hs) (ha H1 r _ fun v H2 r2 pv => hr H2 (Rel.tr r r2) _ fun vs H3 r3 f => k _ H3 (Rel.tr r2 r3) ⟨v, vs, rfl, Mo.mo r3 pv, f⟩)
theorem smn {p : Addr} {o : HO} (h : H p = none) : Same H (upd H p o) := fun a u e => by
  rw [upd_ne (ne_of_none e h)]
  exact e
theorem ev_tup {Ps : List HF} {n : Nat} (h : EA R X es σ H Ps) (hl : decide (Ps.length ≤ 1000) = true := by rfl) [∀ i : Fin Ps.length, Mo Same (Ps.get i)] : EV R X (.Tuple es n pos) σ H (tupF Ps) :=
  EV.by (pe_tup pa_ra) fun H1 r Q k => h H1 r _ fun vs H2 r2 f => ⟨Nat.le_trans (by rw [f.len]; exact of_decide_eq_true hl) (by decide), fun p hp => by
    refine k _ _ (Rel.tr r2 (Rel.sm (smn hp))) ⟨p, vs, rfl, upd_same, f.len, fun i x P h1 h2 => ?_⟩
    obtain ⟨hi, e⟩ := List.getElem?_eq_some_iff.mp h2
    have z := f.all2.2 i x P h1 h2
    have m : Mo Same P := by
      have := ‹∀ i : Fin Ps.length, Mo Same (Ps.get i)› ⟨i, hi⟩
      rw [← e]; exact this
    exact m.mo (smn hp) z⟩
end
end Ly
set_option Elab.async false
set_option linter.all false
set_option maxRecDepth 100000
set_option maxHeartbeats 4000000
/-! The layer, further: calls, instances, places, loops, comprehensions, statements. -/
namespace Ly
open PySem PySem.Spec PyProof.Rows L2
variable {R : Hp → Hp → Prop} {X : Cx} {σ : SS} {H H' : Hp} {P P' Pa Pb Pc : HF} {D : Ends}
/-- what is no list stands -/
def Nl (H H1 : Hp) : Prop := ∀ a o, H a = some o → NL o → H1 a = some o
instance : Rel Nl := ⟨fun _ _ _ h _ => h, fun a b c o h n => b c o (a c o h n) n, fun e c o h _ => e c o h, fun e h n => e _ _ h n⟩
theorem Rel.toNl [Rel R] (r : R H H') : Nl H H' := fun _ _ h n => Rel.nl r h n
theorem nl_upd {l : Addr} {xs : List V} {o : HO} (h : H l = some (.lst xs)) : Nl H (upd H l o) := fun a u e n => by
  have hne : a ≠ l := fun z => by
    subst z
    rw [h] at e
    cases e
    exact n xs rfl
  rw [upd_ne hne]
  exact e
theorem moS {P : HF} [Mo Nl P] : Mo Same P := ⟨fun e h => Mo.mo (R := Nl) (Rel.toNl e) h⟩
theorem moR {P : HF} [Mo Nl P] [Rel R] : Mo R P := ⟨fun e h => Mo.mo (R := Nl) (Rel.toNl e) h⟩
/-- a pure expression within a wider relation -/
theorem ev_pure {e : Expr} [Rel R] (h : ∀ H1, R H H1 → EV Same X e σ H1 P) : EV R X e σ H P := fun H1 r Q k => h H1 r H1 (Same.refl _) Q fun v H2 s p => k v H2 (Rel.sm s) p
/-! ### defs -/
structure DefOk (Pg : Program) (w : World) (K : PySem.W.Frag) (mg : Str → Option Value) (base : Heap) (x : Str) (k : Nat) (sp : Sp) : Prop where
  ex : ∃ (f : Addr) (fd : FuncData) (ps : List Str), mg x = some (.ref f) ∧ PySem.W.keepIn K (.ref f) = true ∧ FnOk Pg w K mg base CX0 k f fd ps sp ∧ Binds K fd ps []
/-- a promise: arguments as told, a condition; all stands, the answer as told -/
def spF {α : Type} (pars : α → List HF) (cond : α → Prop) (res : α → HF) : Sp := fun vs H Q _ => ∃ a, Fit (pars a) vs H ∧ cond a ∧ ∀ v H1, Same H H1 → res a v H1 → Q v H1
theorem spF_len {α : Type} {pars : α → List HF} {cond : α → Prop} {res : α → HF} {n : Nat} (h : ∀ a, (pars a).length = n) (vs : List V) (H : Hp) (Q : VK) (E : XK) (q : spF pars cond res vs H Q E) : vs.length = n := by
  obtain ⟨a, f, _⟩ := q
  rw [f.len, h]
section
variable [Rel R] {e a b c : Expr} {es : List Expr} {pos p apos : Pos} {x m : Str} {k : Nat}
theorem ev_callS {sp : Sp} {Ps : List HF} (G : DefOk X.prog X.w X.K X.mg X.base x k sp) (hr : Room k X.A) (ha : EA R X (e :: es) σ H Ps) (hs : ∀ vs H1, R H H1 → Fit Ps vs H1 → ∀ Q : VK, (∀ v H2, R H1 H2 → P v H2 → Q v H2) → sp vs H1 Q E0)
    (hg : Gl X x := by rfl) (hdb : (x == ("__debug__" : Str)) = false := by decide) (he : starEach (e :: es) X.env = (false, eval e X.env) :: starEach es X.env := by rfl) (hpl : (backTo pos (starEach es X.env)).any (·.1) = false := by rfl) : EV R X (.Call (.Name x p) (e :: es) [] pos) σ H P := by
  obtain ⟨f, fd, ps, hm, hk, F, hb⟩ := G.ex
  refine EV.by (pe_call F hr hg hm hk hb .nil pass0 pa_ra hdb he hpl) fun H1 r Q q => ha H1 r _ fun vs H2 r2 fit => ?_
  rw [List.append_nil]
  exact hs vs H2 (Rel.tr r r2) fit Q fun v H3 r3 p => q v H3 (Rel.tr r2 r3) p
/-- f(e, ..) by its promise -/
theorem ev_call {α : Type} {pars : α → List HF} {cond : α → Prop} {res : α → HF} (G : DefOk X.prog X.w X.K X.mg X.base x k (spF pars cond res)) (hr : Room k X.A) (z : α) (hc : cond z) (ha : EA R X (e :: es) σ H (pars z))
    (hg : Gl X x := by rfl) (hdb : (x == ("__debug__" : Str)) = false := by decide) (he : starEach (e :: es) X.env = (false, eval e X.env) :: starEach es X.env := by rfl) (hpl : (backTo pos (starEach es X.env)).any (·.1) = false := by rfl) : EV R X (.Call (.Name x p) (e :: es) [] pos) σ H (res z) :=
  ev_callS G hr ha (fun vs H1 r fit Q q => ⟨z, fit, hc, fun v H2 s pv => q v H2 (Rel.sm s) pv⟩) hg hdb he hpl
theorem ev_call0 {α : Type} {pars : α → List HF} {cond : α → Prop} {res : α → HF} (G : DefOk X.prog X.w X.K X.mg X.base x k (spF pars cond res)) (hr : Room k X.A) (z : α) (hc : cond z) (hz : pars z = [])
    (hg : Gl X x := by rfl) (hdb : (x == ("__debug__" : Str)) = false := by decide) : EV R X (.Call (.Name x p) [] [] pos) σ H (res z) := by
  obtain ⟨f, fd, ps, hm, hk, F, hb⟩ := G.ex
  refine EV.by (pe_call0 F hr hg hm hk hb .nil pass0 hdb) fun H1 r Q q => ?_
  exact ⟨z, by rw [hz]; exact rfl, hc, fun v H2 s pv => q v H2 (Rel.sm s) pv⟩
/-- one fact fewer is asked, one more is known: arguments as they come -/
theorem EA.imp {Ps Qs : List HF} (h : EA R X es σ H Ps) (k : ∀ vs H1, R H H1 → Fit Ps vs H1 → Fit Qs vs H1) : EA R X es σ H Qs := fun H1 r Q q => h H1 r Q fun vs H2 r2 f => q vs H2 r2 (k vs H2 (Rel.tr r r2) f)
/-! ### built-ins by name -/
theorem ev_b1 {id : String} {r : List V → Hp → VK → Prop} {Ps : List HF} (hcr : CallR X (.builtin id) r) (hm : X.mg x = none) (hv : bootBuiltins x = some (.builtin id)) (ha : EA R X (e :: es) σ H Ps) (hs : ∀ vs H1, R H H1 → Fit Ps vs H1 → ∀ Q : VK, (∀ v H2, R H1 H2 → P v H2 → Q v H2) → r vs H1 Q)
    (hg : Gl X x := by rfl) (hn : x ≠ "__name__" := by decide) (hdb : (x == ("__debug__" : Str)) = false := by decide)
    (he : starEach (e :: es) X.env = (false, eval e X.env) :: starEach es X.env := by rfl) (hpl : (backTo pos (starEach es X.env)).any (·.1) = false := by rfl) : EV R X (.Call (.Name x p) (e :: es) [] pos) σ H P :=
  EV.by (pe_callB hcr hg hm hv pa_ra hn hdb he hpl) fun H1 r Q q => ha H1 r _ fun vs H2 r2 fit => hs vs H2 (Rel.tr r r2) fit Q fun v H3 r3 p => q v H3 (Rel.tr r2 r3) p
theorem ev_t1 {T : String} {r : List V → Hp → VK → Prop} {Ps : List HF} (hcr : CallR X (.type T) r) (hm : X.mg x = none) (hv : bootBuiltins x = some (.type T)) (ha : EA R X (e :: es) σ H Ps) (hs : ∀ vs H1, R H H1 → Fit Ps vs H1 → ∀ Q : VK, (∀ v H2, R H1 H2 → P v H2 → Q v H2) → r vs H1 Q)
    (hg : Gl X x := by rfl) (hn : x ≠ "__name__" := by decide) (hdb : (x == ("__debug__" : Str)) = false := by decide)
    (he : starEach (e :: es) X.env = (false, eval e X.env) :: starEach es X.env := by rfl) (hpl : (backTo pos (starEach es X.env)).any (·.1) = false := by rfl) : EV R X (.Call (.Name x p) (e :: es) [] pos) σ H P :=
  EV.by (pe_callTy hcr hg hm hv pa_ra hn hdb he hpl) fun H1 r Q q => ha H1 r _ fun vs H2 r2 fit => hs vs H2 (Rel.tr r r2) fit Q fun v H3 r3 p => q v H3 (Rel.tr r2 r3) p
theorem fit1 {P : HF} {vs : List V} {H : Hp} (h : Fit [P] vs H) : ∃ v, vs = [v] ∧ P v H := by
  obtain ⟨v, r, e, p, q⟩ := h
  rw [show r = [] from q] at e
  exact ⟨v, e, p⟩
theorem fit2 {P Q : HF} {vs : List V} {H : Hp} (h : Fit [P, Q] vs H) : ∃ v w, vs = [v, w] ∧ P v H ∧ Q w H := by
  obtain ⟨v, r, e, p, q⟩ := h
  obtain ⟨w, e2, q2⟩ := fit1 q
  exact ⟨v, w, by rw [e, e2], p, q2⟩
theorem fit3 {P Q S : HF} {vs : List V} {H : Hp} (h : Fit [P, Q, S] vs H) : ∃ v w u, vs = [v, w, u] ∧ P v H ∧ Q w H ∧ S u H := by
  obtain ⟨v, r, e, p, q⟩ := h
  obtain ⟨w, u, e2, q2, q3⟩ := fit2 q
  exact ⟨v, w, u, by rw [e, e2], p, q2, q3⟩
theorem fit4 {P Q S T : HF} {vs : List V} {H : Hp} (h : Fit [P, Q, S, T] vs H) : ∃ v w u t, vs = [v, w, u, t] ∧ P v H ∧ Q w H ∧ S u H ∧ T t H := by
  obtain ⟨v, r, e, p, q⟩ := h
  obtain ⟨w, u, t, e2, q2, q3, q4⟩ := fit3 q
  exact ⟨v, w, u, t, by rw [e, e2], p, q2, q3, q4⟩
/-- abs(n) -/
theorem ev_abs {i : Int} (hm : X.mg "abs" = none) (ha : EV R X e σ H (isI i)) (hg : Gl X "abs" := by rfl) (he : starEach [e] X.env = (false, eval e X.env) :: starEach [] X.env := by rfl) : EV R X (.Call (.Name "abs" p) [e] [] pos) σ H (isI (i.natAbs : Int)) :=
  ev_b1 call_abs hm (by decide +kernel) (ea_cons ha ea_nil he) (fun vs H1 r fit Q q => by
    obtain ⟨v, rfl, pv⟩ := fit1 fit
    cases pv
    refine ⟨i, rfl, q _ _ (Rel.rf _) ?_⟩
    show V.int _ = V.int _
    by_cases h : i < 0
    · rw [if_pos h]; congr 1; omega
    · rw [if_neg h]; congr 1; omega) hg (by decide) (by decide) he
/-- int(n) -/
theorem ev_intOf {i : Int} (hm : X.mg "int" = none) (ha : EV R X e σ H (isI i)) (hg : Gl X "int" := by rfl) (he : starEach [e] X.env = (false, eval e X.env) :: starEach [] X.env := by rfl) : EV R X (.Call (.Name "int" p) [e] [] pos) σ H (isI i) :=
  ev_t1 call_int1 hm (by decide +kernel) (ea_cons ha ea_nil he) (fun vs H1 r fit Q q => by
    obtain ⟨v, rfl, pv⟩ := fit1 fit
    cases pv
    exact .inl ⟨i, rfl, q _ _ (Rel.rf _) rfl⟩) hg (by decide) (by decide) he
theorem ev_intOfP {t : Int → Prop} (hm : X.mg "int" = none) (ha : EV R X e σ H (isIp t)) (hg : Gl X "int" := by rfl) (he : starEach [e] X.env = (false, eval e X.env) :: starEach [] X.env := by rfl) : EV R X (.Call (.Name "int" p) [e] [] pos) σ H (isIp t) :=
  ev_t1 call_int1 hm (by decide +kernel) (ea_cons ha ea_nil he) (fun vs H1 r fit Q q => by
    obtain ⟨v, rfl, ⟨i, hi, pv⟩⟩ := fit1 fit
    cases pv
    exact .inl ⟨i, rfl, q _ _ (Rel.rf _) ⟨i, hi, rfl⟩⟩) hg (by decide) (by decide) he
theorem ev_intOfB {t : Bool} (hm : X.mg "int" = none) (ha : EV R X e σ H (isB t)) (hg : Gl X "int" := by rfl) (he : starEach [e] X.env = (false, eval e X.env) :: starEach [] X.env := by rfl) : EV R X (.Call (.Name "int" p) [e] [] pos) σ H (isI (if t then 1 else 0)) :=
  ev_t1 call_int1 hm (by decide +kernel) (ea_cons ha ea_nil he) (fun vs H1 r fit Q q => by
    obtain ⟨v, rfl, pv⟩ := fit1 fit
    cases pv
    exact .inr ⟨t, rfl, q _ _ (Rel.rf _) rfl⟩) hg (by decide) (by decide) he
/-- len of a tuple, a list -/
theorem ev_lenT {α : Type} {F : α → HF} {as : List α} (hm : X.mg "len" = none) (ha : EV R X e σ H (tupOf F as)) [Mo R (tupOf F as)] (hg : Gl X "len" := by rfl) (he : starEach [e] X.env = (false, eval e X.env) :: starEach [] X.env := by rfl) : EV R X (.Call (.Name "len" p) [e] [] pos) σ H (isI (as.length : Int)) :=
  ev_b1 call_len hm PySem.boot_len (ea_cons ha ea_nil he) (fun vs H1 r fit Q q => by
    obtain ⟨v, rfl, a, xs, rfl, ha, q2⟩ := fit1 fit
    exact ⟨_, as.length, rfl, .inr ⟨xs, SqT.of ha, q2.1.symm⟩, q _ _ (Rel.rf _) rfl⟩) hg (by decide) (by decide) he
theorem ev_lenL {α : Type} {F : α → HF} {as : List α} (hm : X.mg "len" = none) (ha : EV R X e σ H (lstOf F as)) [Mo R (lstOf F as)] (hg : Gl X "len" := by rfl) (he : starEach [e] X.env = (false, eval e X.env) :: starEach [] X.env := by rfl) : EV R X (.Call (.Name "len" p) [e] [] pos) σ H (isI (as.length : Int)) :=
  ev_b1 call_len hm PySem.boot_len (ea_cons ha ea_nil he) (fun vs H1 r fit Q q => by
    obtain ⟨v, rfl, a, xs, rfl, ha, q2⟩ := fit1 fit
    exact ⟨_, as.length, rfl, .inl ⟨xs, SqL.of ha, q2.1.symm⟩, q _ _ (Rel.rf _) rfl⟩) hg (by decide) (by decide) he
/-- tuple(list), list(tuple) -/
theorem ev_tupleOf {α : Type} {F : α → HF} {as : List α} (hm : X.mg "tuple" = none) (ha : EV R X e σ H (lstOf F as)) [Mo R (lstOf F as)] (hF : ∀ a, Mo Same (F a)) (hg : Gl X "tuple" := by rfl) (he : starEach [e] X.env = (false, eval e X.env) :: starEach [] X.env := by rfl) : EV R X (.Call (.Name "tuple" p) [e] [] pos) σ H (tupOf F as) :=
  ev_t1 call_tuple_of hm (by decide +kernel) (ea_cons ha ea_nil he) (fun vs H1 r fit Q q => by
    obtain ⟨v, rfl, a, xs, rfl, ha, q2⟩ := fit1 fit
    exact ⟨_, xs, rfl, .inl ⟨SqL.of ha, fun l hl => q _ _ (Rel.sm (smn hl)) ⟨l, xs, rfl, upd_same, q2.mo (R := Same) (smn hl)⟩⟩⟩) hg (by decide) (by decide) he
theorem ev_listOf {α : Type} {F : α → HF} {as : List α} (hm : X.mg "list" = none) (ha : EV R X e σ H (tupOf F as)) [Mo R (tupOf F as)] (hF : ∀ a, Mo Same (F a)) (hg : Gl X "list" := by rfl) (he : starEach [e] X.env = (false, eval e X.env) :: starEach [] X.env := by rfl) : EV R X (.Call (.Name "list" p) [e] [] pos) σ H (lstOf F as) :=
  ev_t1 call_list_of hm (by decide +kernel) (ea_cons ha ea_nil he) (fun vs H1 r fit Q q => by
    obtain ⟨v, rfl, a, xs, rfl, ha, q2⟩ := fit1 fit
    exact ⟨_, xs, rfl, .inr (SqT.of ha), fun l hl => q _ _ (Rel.sm (smn hl)) ⟨l, xs, rfl, upd_same, q2.mo (R := Same) (smn hl)⟩⟩) hg (by decide) (by decide) he
/-- all([..]) of truths -/
theorem ev_all {bs : List Bool} (hc : X.calm = true) (hm : X.mg "all" = none) (ha : EV R X e σ H (lstOf isB bs)) [Mo R (lstOf isB bs)] (hg : Gl X "all" := by rfl) (he : starEach [e] X.env = (false, eval e X.env) :: starEach [] X.env := by rfl) : EV R X (.Call (.Name "all" p) [e] [] pos) σ H (isB (bs.all id)) :=
  ev_b1 (cr_all hc) hm (by decide +kernel) (ea_cons ha ea_nil he) (fun vs H1 r fit Q q => by
    obtain ⟨v, rfl, a, xs, rfl, ha, q2⟩ := fit1 fit
    have e1 : xs = bs.map V.bl := by
      refine List.ext_getElem? fun i => ?_
      rw [List.getElem?_map]
      cases h : bs[i]? with
      | none =>
        have := List.getElem?_eq_none_iff.mp h
        rw [List.getElem?_eq_none_iff.mpr (by rw [q2.1]; exact this)]
        rfl
      | some b =>
        obtain ⟨y, hy, ey⟩ := q2.get h
        rw [hy]
        cases ey
        rfl
    subst e1
    exact ⟨a, bs, rfl, SqL.of ha, q _ _ (Rel.rf _) rfl⟩) hg (by decide) (by decide) he
/-! ### items -/
theorem at_some {α β : Type} {F : α → HF} {as : List α} {xs : List V} {H : Hp} {i : Int} {z : α} (q : All2 F xs as H) (h : atI as i = some z) : ∃ x, atI xs i = some x ∧ F z x H := by
  unfold atI at h ⊢
  rw [q.1]
  obtain ⟨j, h1, h2⟩ := Option.bind_eq_some_iff.mp h
  obtain ⟨x, hx, f⟩ := q.get h2
  exact ⟨x, by rw [h1]; exact hx, f⟩
theorem ev_ixT {α : Type} {F : α → HF} {as : List α} {i : Int} {z : α} (ha : EV R X a σ H (tupOf F as)) [Mo R (tupOf F as)] (hb : EV R X b σ H (isI i)) (h : atI as i = some z := by rfl) (hs : PlainIx b := by exact fun _ _ => rfl) : EV R X (.Subscript a b pos) σ H (F z) :=
  EV.by (pe_ix ix_tup pe_re pe_re hs) fun H1 r Q q => two ha hb r fun x y H2 r2 ⟨ad, xs, ex, hx, q2⟩ py => by
    obtain ⟨w, hw, fw⟩ := at_some (β := Unit) q2 h
    exact ⟨ad, xs, i, w, ex, py, SqT.of hx, hw, q w H2 r2 fw⟩
theorem ev_ixL {α : Type} {F : α → HF} {as : List α} {i : Int} {z : α} (ha : EV R X a σ H (lstOf F as)) [Mo R (lstOf F as)] (hb : EV R X b σ H (isI i)) (h : atI as i = some z := by rfl) (hs : PlainIx b := by exact fun _ _ => rfl) : EV R X (.Subscript a b pos) σ H (F z) :=
  EV.by (pe_ix ix_list pe_re pe_re hs) fun H1 r Q q => two ha hb r fun x y H2 r2 ⟨ad, xs, ex, hx, q2⟩ py => by
    obtain ⟨w, hw, fw⟩ := at_some (β := Unit) q2 h
    exact ⟨ad, xs, i, w, ex, py, SqL.of hx, hw, q w H2 r2 fw⟩
/-! ### attributes, instances -/
theorem ev_fldG {f : Str} (ha : EV R X e σ H Pa) (k : ∀ x H1, R H H1 → Pa x H1 → ∃ a C dx fs v, x = .ref a ∧ H1 a = some (.ins C dx fs) ∧ Cls X.K C ∧ NoAttr X.K C f ∧ fs.lookup f = some v ∧ P v H1)
    (hb : attributeBase e f X.env (eval e X.env) = eval e X.env := by rfl) : EV R X (.Attribute e f pos) σ H P :=
  EV.by (pe_fld pe_re hb) fun H1 r Q q => ha H1 r _ fun x H2 r2 px => by
    obtain ⟨a, C, dx, fs, v, ex, hx, c, n, l, pv⟩ := k x H2 (Rel.tr r r2) px
    exact ⟨a, C, dx, fs, v, ex, hx, c, n, l, q v H2 r2 pv⟩
/-- what stands at x is an instance of the class at C, its attributes as told -/
def insOf {α : Type} (C : Addr) (fs : α → List (Str × V) → Hp → Prop) (z : α) : HF := fun v H => ∃ a dx l, v = .ref a ∧ H a = some (.ins C dx l) ∧ fs z l H
/-- an __init__'s promise -/
def spN {α : Type} (C : Addr) (pars : α → List HF) (cond : α → Prop) (fs : α → List (Str × V) → Hp → Prop) : Sp := fun vs H Q _ => ∃ z x dx us, vs = .ref x :: us ∧ H x = some (.ins C dx []) ∧ Fit (pars z) us H ∧ cond z ∧
  ∀ H1 l, (∀ b o, b ≠ x → H b = some o → H1 b = some o) → H1 x = some (.ins C dx l) → fs z l H1 → Q .non H1
structure ClsOk (Pg : Program) (w : World) (K : PySem.W.Frag) (mg : Str → Option Value) (base : Heap) (x : Str) (C : Addr) (k : Nat) (sp : Sp) : Prop where
  ex : ∃ (f : Addr) (fd : FuncData) (ps : List Str), mg x = some (.ref C) ∧ Mk K C f ∧ FnOk Pg w K mg base CX0 k f fd ps sp ∧ Binds K fd ps []
theorem Fit.mo : ∀ {Ps : List HF} {vs : List V} {H H1 : Hp} (_ : ∀ P ∈ Ps, Mo Same P) (_ : Same H H1), Fit Ps vs H → Fit Ps vs H1
  | [], _, _, _, _, _, h => h
  | P :: Ps, _, _, _, m, s, ⟨v, r, e, p, q⟩ => ⟨v, r, e, (m P (List.mem_cons_self ..)).mo s p, Fit.mo (fun P h => m P (List.mem_cons_of_mem _ h)) s q⟩
theorem ev_new {α : Type} {C : Addr} {pars : α → List HF} {cond : α → Prop} {fs : α → List (Str × V) → Hp → Prop} (G : ClsOk X.prog X.w X.K X.mg X.base x C k (spN C pars cond fs)) (hr : Room (k + 1) X.A) (z : α) (hc : cond z) (hmo : ∀ P ∈ pars z, Mo Same P) (ha : EA R X (e :: es) σ H (pars z))
    (hg : Gl X x := by rfl) (hdb : (x == ("__debug__" : Str)) = false := by decide) (he : starEach (e :: es) X.env = (false, eval e X.env) :: starEach es X.env := by rfl) (hpl : (backTo pos (starEach es X.env)).any (·.1) = false := by rfl) : EV R X (.Call (.Name x p) (e :: es) [] pos) σ H (insOf C fs z) := by
  obtain ⟨f, fd, ps, hm, M, F, hb⟩ := G.ex
  refine EV.by (pe_make M F hr hg hm hb .nil pass0 pa_ra hdb he hpl) fun H1 r Q q => ha H1 r _ fun vs H2 r2 fit y dy ny ndy ne => ?_
  have s0 : Same H2 (upd (upd H2 dy (.own y)) y (.ins C dy [])) := fun b o hb => by
    rw [upd_ne (ne_of_none hb ny), upd_ne (ne_of_none hb ndy)]
    exact hb
  rw [List.append_nil]
  refine ⟨z, y, dy, vs, rfl, upd_same, fit.mo hmo s0, hc, fun H3 l kp h3 hfs => ⟨rfl, q _ _ (Rel.tr r2 (Rel.sm fun b o hb => kp b o (ne_of_none hb ny) (s0 b o hb))) ⟨y, dy, l, rfl, h3, hfs⟩⟩⟩
end
/-! ### an own operator -/
section
variable {k : Nat} {C g : Addr} {fd : FuncData} {ps : List Str} {sp : Sp}
def rOwn2 (C : Addr) (sp : Sp) : R2 := fun x y H Q => ∃ a b dx dy fs gs, x = .ref a ∧ y = .ref b ∧ H a = some (.ins C dx fs) ∧ H b = some (.ins C dy gs) ∧ sp [x, y] H Q E0
theorem back_of {Q : VK} {pins : List (Addr × Obj)} {u : Value} {s' : Shared} (h : EP X pins σ Q u s') : PySem.W.CmpBack (EP X pins σ Q) u s' := by
  obtain ⟨v, H1, I, r, q⟩ := h
  exact SlX.cmpback r ⟨v, H1, I, r, q⟩
theorem op_ownB {op : Operator} (hs : PySem.W.findIn X.K (.ref C) (PySem.dunder op.info.2) = some (some (.ref g))) (hf : PySem.W.isFn X.K (.ref g) = true) (sf : PySem.W.selfFirst X.K C = true)
    (F : FnOk X.prog X.w X.K X.mg X.base CX0 k g fd ps sp) (hb : Binds X.K fd ps []) (hr : Room k X.A) : OpR X (binaryOp op) (rOwn2 C sp) := by
  intro pins s σ H x y v u Q I rx ry asked
  obtain ⟨a, b, dx, dy, fs, gs, rfl, rfl, ha, hb', q⟩ := asked
  cases rx
  cases ry
  obtain ⟨mA, Ja, _⟩ := ins_get I.hok ha
  obtain ⟨mB, Jb, _⟩ := ins_get I.hok hb'
  obtain ⟨od, Ja, _⟩ := Ja.look
  obtain ⟨od', Jb, _⟩ := Jb.look
  obtain ⟨m, hF⟩ := I.fr
  refine PySem.W.binop_K (op := op) hF I.ok.mod.kin Ja Jb.type sf hs hf ?_
  exact wpAny_mono (run_fn (us := [.ref a, .ref b]) (vs := [.ref a, .ref b]) (ds := []) (dvs := []) F hr hb .nil pass0 I (.cons rfl (.cons rfl .nil)) q) (fun w s' z => back_of z) fun _ _ x => x
theorem op_ownC {op : CmpOp} (hop : ∀ a b, compareOp op a b = richCompare op a b) (hs : PySem.W.findIn X.K (.ref C) (cmpInfo op).2.1 = some (some (.ref g))) (hf : PySem.W.isFn X.K (.ref g) = true)
    (F : FnOk X.prog X.w X.K X.mg X.base CX0 k g fd ps sp) (hb : Binds X.K fd ps []) (hr : Room k X.A) : OpR X (compareOp op) (rOwn2 C sp) := by
  intro pins s σ H x y v u Q I rx ry asked
  obtain ⟨a, b, dx, dy, fs, gs, rfl, rfl, ha, hb', q⟩ := asked
  cases rx
  cases ry
  obtain ⟨mA, Ja, _⟩ := ins_get I.hok ha
  obtain ⟨mB, Jb, _⟩ := ins_get I.hok hb'
  obtain ⟨od, Ja, _⟩ := Ja.look
  obtain ⟨od', Jb, _⟩ := Jb.look
  obtain ⟨m, hF⟩ := I.fr
  rw [hop]
  refine PySem.W.cmp_K (op := op) (tb := .ref C) hr.units0 hF I.ok.mod.kin Ja Jb.type (by simp [PySem.W.notFirst]) hs hf ?_
  exact wpAny_mono (run_fn (us := [.ref a, .ref b]) (vs := [.ref a, .ref b]) (ds := []) (dvs := []) F hr hb .nil pass0 I (.cons rfl (.cons rfl .nil)) q) (fun w s' z => back_of z) fun _ _ x => x
/-- len(x), x an instance with an own __len__ -/
def rLenOwn (C : Addr) (sp : Sp) : List V → Hp → VK → Prop := fun xs H Q => ∃ a dx fs, xs = [.ref a] ∧ H a = some (.ins C dx fs) ∧ sp [.ref a] H (fun v H1 => ∃ i : Int, v = .int i ∧ 0 ≤ i ∧ i < 2 ^ 63 ∧ Q v H1) E0
theorem call_lenOwn (hs : PySem.W.findIn X.K (.ref C) "__len__" = some (some (.ref g))) (hf : PySem.W.isFn X.K (.ref g) = true)
    (F : FnOk X.prog X.w X.K X.mg X.base CX0 k g fd ps sp) (hb : Binds X.K fd ps []) (hr : Room (k + 1) X.A) : CallR X (.builtin "len") (rLenOwn C sp) := by
  intro pins s σ H xs us Q I rel asked
  obtain ⟨a, dx, fs, rfl, ha, q⟩ := asked
  obtain ⟨u, rfl, ru⟩ := vals1 rel
  cases ru
  obtain ⟨mA, Ja, _⟩ := ins_get I.hok ha
  obtain ⟨od, Ja, _⟩ := Ja.look
  obtain ⟨m, hF⟩ := I.fr
  refine PySem.W.len_K hF I.ok.mod.kin Ja hs hf ?_
  have hl := F.len _ _ _ _ q
  have r2 : Vals [.ref a] [Value.ref a] := .cons (show RelV (.ref a) (.ref a) from rfl) .nil
  refine wpAny_call (codeAny_mono (F.run X.A.in1 X.stack s H ⟨[.ref a], []⟩ [.ref a] [.ref a] _ E0 hr.in1 I.env0.in1 (by
    have := hb s [.ref a] I.kIn (by simpa using hl)
    simpa using this) r2 q) fun r s' hq => ?_)
  cases r with
  | error e => exact hq.elim
  | ok fl =>
    cases fl with
    | ret w =>
      obtain ⟨z, H', I', rz, i, ez, h0, h1, qz⟩ := I.after hq
      subst ez
      obtain ⟨t, ew⟩ := (show ∃ t, w = Value.int i t from rz)
      subst ew
      exact ⟨⟨h0, h1⟩, V.int i, H', I'.tok _, ⟨_, rfl⟩, qz⟩
    | next => exact False.elim hq
    | brk => exact False.elim hq
    | cont => exact False.elim hq
end
end Ly
set_option Elab.async false
set_option linter.all false
set_option maxRecDepth 100000
set_option maxHeartbeats 4000000
/-! The layer, further: statements, loops, comprehensions. -/
namespace Ly
open PySem PySem.Spec PyProof.Rows L2
variable {R : Hp → Hp → Prop} {X : Cx} {σ : SS} {H H' : Hp} {P P' Pa Pb Pc : HF} {D : Ends}
section
variable [Rel R] {e a b c : Expr} {es : List Expr} {pos p pos' apos : Pos} {x m : Str} {rest body els : List Stmt}
/-- the very tuple, the very list -/
def tupAt (xs : List V) : HF := fun v H1 => ∃ p, v = .ref p ∧ H1 p = some (.tup xs)
def lstAt (xs : List V) : HF := fun v H1 => ∃ p, v = .ref p ∧ H1 p = some (.lst xs)
instance {xs : List V} : Mo R (tupAt xs) := ⟨fun e ⟨p, h, q⟩ => ⟨p, h, Rel.nl e q nl_tup⟩⟩
instance {xs : List V} : Mo Same (lstAt xs) := ⟨fun e ⟨p, h, q⟩ => ⟨p, h, e _ _ q⟩⟩
/-- name = e -/
theorem b_set (i : Nat) (he : EV R X e σ H P) (k : ∀ v H1, R H H1 → P v H1 → RSs X rest D (σ.set i (some v)) H1) (hN : X.N.Nodup) (hi : X.N[i]? = some x := by rfl) (hx : Loc X.env.scope x := by first | exact Or.inl rfl | exact Or.inr rfl)
    (hs : swapsWith e (some (.Name x pos')) pos.line X.env = pure false := by rfl) (hf : X.fn x = true ∨ X.env.scope.names.lookup x = some .local := by first | exact .inl rfl | exact .inr rfl) : RSs X (.Assign [.Name x pos'] e pos :: rest) D σ H :=
  RSs.cons (RS.of (ps_set hN hi hx pe_re hs hf) (he H (Rel.rf _) _ fun v H1 r p => k v H1 r p))
/-- name = [..] on one line, the name a local: the list comprehension stored within its own frame -/
theorem b_ret (he : EV R X e σ H P) (k : ∀ v H1, R H H1 → P v H1 → D.rt v H1) : RSs X (.Return (some e) pos :: rest) D σ H :=
  RSs.cons (RS.of (ps_ret pe_re) (he H (Rel.rf _) _ fun v H1 r p => k v H1 r p))
theorem b_expr (he : EV R X e σ H P) (k : ∀ v H1, R H H1 → P v H1 → RSs X rest D σ H1) (hs : swapsWith e none pos.line X.env = pure false := by rfl) : RSs X (.Expr e pos :: rest) D σ H :=
  RSs.cons (RS.of (ps_expr pe_re hs) (he H (Rel.rf _) _ fun v H1 r p => k v H1 r p))
theorem b_if {t : Bool → Prop} (hc : ET R X c σ H t) (h1 : t true → ∀ H1, R H H1 → RSs X body { D with nx := RSs X rest D } σ H1) (h0 : t false → ∀ H1, R H H1 → RSs X els { D with nx := RSs X rest D } σ H1) : RSs X (.If c body els pos :: rest) D σ H :=
  RSs.cons (RS.of (ps_if pt_rt pss_rs pss_rs) (hc H (Rel.rf _) _ fun v H1 r p => by
    cases v with
    | true => exact h1 p H1 r
    | false => exact h0 p H1 r))
/-- if c: body, without else -/
theorem b_when {t : Bool → Prop} (hc : ET R X c σ H t) (h1 : t true → ∀ H1, R H H1 → RSs X body { D with nx := RSs X rest D } σ H1) (h0 : t false → ∀ H1, R H H1 → RSs X rest D σ H1) : RSs X (.If c body [] pos :: rest) D σ H :=
  b_if hc h1 fun p H1 r => RSs.nil (h0 p H1 r)
/-- a, b = e1, e2 of plain locals -/
theorem b_par (i j : Nat) {y : Str} {px py pt pt2 : Pos} {kt k2} (ha : EA R X [a, b] σ H [Pa, Pb]) (k : ∀ v w H1, R H H1 → Pa v H1 → Pb w H1 → RSs X rest D ((σ.set i (some v)).set j (some w)) H1) (hN : X.N.Nodup) (hc : X.calm = true := by rfl) (hi : X.N[i]? = some x := by rfl) (hj : X.N[j]? = some y := by rfl) (hij : i ≠ j := by decide)
    (hx : X.env.scope.names.lookup x = some .local := by rfl) (hy : X.env.scope.names.lookup y = some .local := by rfl)
    (hw : swappedStores [.Tuple [.Name x px, .Name y py] kt pt] (.Tuple [a, b] k2 pt2) X.env = pure (some [x, y]) := by rfl)
    (hs : swapsWithSole [.Tuple [.Name x px, .Name y py] kt pt] (.Tuple [a, b] k2 pt2) pos.line X.env = pure false := by rfl) :
    RSs X (.Assign [.Tuple [.Name x px, .Name y py] kt pt] (.Tuple [a, b] k2 pt2) pos :: rest) D σ H :=
  RSs.cons (RS.of (ps_par hc hN hi hj hij hx hy pa_ra hw hs) (ha H (Rel.rf _) _ fun vs H1 r f => by
    obtain ⟨v, w, e, pv, pw⟩ := fit2 f
    exact ⟨v, w, e, k v w H1 r pv pw⟩))
/-- a, b, c = a list of three -/
theorem b_unl3 (i j l : Nat) {y z : Str} {px py pz pt : Pos} {kt : Nat} {α : Type} {F : α → HF} {u v w : α} (he : EV R X e σ H (lstOf F [u, v, w])) (k : ∀ a b c H1, R H H1 → F u a H1 → F v b H1 → F w c H1 → RSs X rest D (((σ.set i (some a)).set j (some b)).set l (some c)) H1)
    (hN : X.N.Nodup) (hc : X.calm = true := by rfl) (hi : X.N[i]? = some x := by rfl) (hj : X.N[j]? = some y := by rfl) (hl : X.N[l]? = some z := by rfl) (hx : Loc X.env.scope x := by first | exact Or.inl rfl | exact Or.inr rfl) (hy : Loc X.env.scope y := by first | exact Or.inl rfl | exact Or.inr rfl) (hz : Loc X.env.scope z := by first | exact Or.inl rfl | exact Or.inr rfl)
    (f1 : X.fn x = true ∨ X.env.scope.names.lookup x = some .local := by first | exact .inl rfl | exact .inr rfl) (f2 : X.fn y = true ∨ X.env.scope.names.lookup y = some .local := by first | exact .inl rfl | exact .inr rfl) (f3 : X.fn z = true ∨ X.env.scope.names.lookup z = some .local := by first | exact .inl rfl | exact .inr rfl)
    (g1 : (assignEach [Expr.Name z pz] X.env).map (·.2) = assign (.Name z pz) X.env :: (assignEach [] X.env).map (·.2) := by rfl)
    (g2 : (assignEach [Expr.Name y py, Expr.Name z pz] X.env).map (·.2) = assign (.Name y py) X.env :: (assignEach [Expr.Name z pz] X.env).map (·.2) := by rfl)
    (g3 : (assignEach [Expr.Name x px, Expr.Name y py, Expr.Name z pz] X.env).map (·.2) = assign (.Name x px) X.env :: (assignEach [Expr.Name y py, Expr.Name z pz] X.env).map (·.2) := by rfl)
    (hs : swapsWithSole [.Tuple [.Name x px, .Name y py, .Name z pz] kt pt] e pos.line X.env = pure false := by rfl) (hw : swappedStores [.Tuple [.Name x px, .Name y py, .Name z pz] kt pt] e X.env = pure none := by rfl)
    (h1 : (assignEach [Expr.Tuple [.Name x px, .Name y py, .Name z pz] kt pt] X.env).map (·.2) = [assign (.Tuple [.Name x px, .Name y py, .Name z pz] kt pt) X.env] := by rfl)
    (hn : (assignEach [Expr.Name x px, Expr.Name y py, Expr.Name z pz] X.env).length = 3 := by rfl) (hst : (assignEach [Expr.Name x px, Expr.Name y py, Expr.Name z pz] X.env).findIdx? (·.1) = none := by rfl) :
    RSs X (.Assign [.Tuple [.Name x px, .Name y py, .Name z pz] kt pt] e pos :: rest) D σ H :=
  RSs.cons (RS.of (ps_asg pe_re (pg_unl hc (pgs_cons (pg_name hN hi hx f1) (pgs_cons (pg_name hN hj hy f2) (pgs_cons (pg_name hN hl hz f3) pgs_nil g1) g2) g3) hn hst) hs hw h1) (he H (Rel.rf _) _ fun q H1 r ⟨ad, xs, eq, hx, q2⟩ => by
    obtain ⟨l1, f⟩ := q2
    match xs, l1 with
    | [a, b, c], _ => exact ⟨ad, _, eq, SqL.of hx, rfl, a, _, rfl, b, _, rfl, c, _, rfl, rfl, k a b c H1 r (f 0 _ _ rfl rfl) (f 1 _ _ rfl rfl) (f 2 _ _ rfl rfl)⟩))
/-- o[i] = e, o a list that stands tracked -/
theorem b_put {F : Type} (hv : EV R X e σ H Pa) (ha : EV R X a σ H Pb) (hb : EV R X b σ H Pc) [Mo R Pa] [Mo R Pb] (k : ∀ v o i H1, R H H1 → Pa v H1 → Pb o H1 → Pc i H1 → ∃ p xs n j, o = .ref p ∧ i = .int n ∧ H1 p = some (.lst xs) ∧ ixN xs.length n = some j ∧ RSs X rest D σ (upd H1 p (.lst (xs.set j v))))
    (hs : swapsWithSole [.Subscript a b apos] e pos.line X.env = pure false := by rfl) (hw : swappedStores [.Subscript a b apos] e X.env = pure none := by rfl)
    (h1 : (assignEach [Expr.Subscript a b apos] X.env).map (·.2) = [assign (.Subscript a b apos) X.env] := by rfl)
    (hp : ∀ v, assign (.Subscript a b apos) X.env v = (do
      let ov ← holding [v] (eval a X.env)
      let iv ← holding [v, ov] (eval b X.env)
      standAt apos
      holding [v, ov, iv] (setItem ov iv v)
      release [v, ov, iv] []) := by intro _; rfl) : RSs X (.Assign [.Subscript a b apos] e pos :: rest) D σ H :=
  RSs.cons (RS.of (ps_asg pe_re (pg_sub pe_re pe_re set_list hp) hs hw h1) (hv H (Rel.rf _) _ fun v H1 r1 pv => ha H1 r1 _ fun o H2 r2 po => hb H2 (Rel.tr r1 r2) _ fun i H3 r3 pi => by
    obtain ⟨p, xs, n, j, eo, ei, hp, hj, q⟩ := k v o i H3 (Rel.tr r1 (Rel.tr r2 r3)) (Mo.mo r3 (Mo.mo r2 pv)) (Mo.mo r3 po) pi
    exact ⟨p, xs, n, j, eo, ei, hp, hj, q⟩))
/-- o.f = e -/
theorem b_fld {f : Str} (hv : EV R X e σ H Pa) (ha : EV R X a σ H Pb) [Mo R Pa] (k : ∀ v o H1, R H H1 → Pa v H1 → Pb o H1 → ∃ p C dx fs, o = .ref p ∧ H1 p = some (.ins C dx fs) ∧ Cls X.K C ∧ NoAttr X.K C f ∧ fs.length < 1000 ∧ RSs X rest D σ (upd H1 p (.ins C dx (putF f v fs))))
    (hs : swapsWith e (some (.Attribute a f pos')) pos.line X.env = pure false := by rfl) : RSs X (.Assign [.Attribute a f pos'] e pos :: rest) D σ H :=
  RSs.cons (RS.of (ps_fld pe_re pe_re hs) (hv H (Rel.rf _) _ fun v H1 r1 pv => ha H1 r1 _ fun o H2 r2 po => k v o H2 (Rel.tr r1 r2) (Mo.mo r2 pv) po))
/-- xs.append(e) -/
theorem b_app (ha : EV R X a σ H Pa) (hv : EV R X e σ H Pb) [Mo R Pa] (hl : ∀ o H1, R H H1 → Pa o H1 → ∃ p xs, o = .ref p ∧ H1 p = some (.lst xs)) (k : ∀ o v H1, R H H1 → Pa o H1 → Pb v H1 → ∃ p xs, o = .ref p ∧ H1 p = some (.lst xs) ∧ xs.length < 1000000 ∧ RSs X rest D σ (upd H1 p (.lst (xs ++ [v]))))
    (hbase : attributeBase a "append" X.env (eval a X.env) = eval a X.env := by rfl)
    (hfew : ((backTo p (starEach [e] X.env)).all (fun x => !x.1) && (backToKw p (keywordEach [] X.env)).all (fun x => x.1.isSome)
      && decide ([e].length + ([] : List Keyword).length + (if ([] : List Keyword).isEmpty then 0 else 1) < 30)) = true := by rfl)
    (hline : (apos.endLine == p.line) = true := by rfl) (he : starEach [e] X.env = (false, eval e X.env) :: starEach [] X.env := by rfl) (hplain : (backTo p (starEach [] X.env)).any (·.1) = false := by rfl)
    (hs : swapsWith (.Call (.Attribute a "append" apos) [e] [] p) none pos.line X.env = pure false := by rfl) : RSs X (.Expr (.Call (.Attribute a "append" apos) [e] [] p) pos :: rest) D σ H :=
  RSs.cons (RS.of (ps_expr (pe_bm PySem.F.plainAttrs_list PySem.F.slot_list_append PySem.F.type_list_append mt_append pe_re (pa_cons pe_re pa_nil he) hbase hfew hline he hplain) hs) (ha H (Rel.rf _) _ fun o H1 r1 po => by
    obtain ⟨p, xs, eo, hp⟩ := hl o H1 r1 po
    subst eo
    refine ⟨.inl ⟨rfl, _, SqL.of hp⟩, hv H1 r1 _ fun v H2 r2 pv => ?_⟩
    obtain ⟨p2, ys, e2, hp2, hz, q⟩ := k (.ref p) v H2 (Rel.tr r1 r2) (Mo.mo r2 po) pv
    exact ⟨p2, ys, v, e2, rfl, hp2, Nat.lt_of_lt_of_le hz (by decide), q⟩))
/-- xs.extend(ys) -/
theorem b_ext (ha : EV R X a σ H Pa) (hv : EV R X e σ H Pb) [Mo R Pa] (hl : ∀ o H1, R H H1 → Pa o H1 → ∃ p xs, o = .ref p ∧ H1 p = some (.lst xs)) (k : ∀ o v H1, R H H1 → Pa o H1 → Pb v H1 → ∃ p xs q ys, o = .ref p ∧ v = .ref q ∧ H1 p = some (.lst xs) ∧ H1 q = some (.lst ys) ∧ xs.length + ys.length < 1000000 ∧ RSs X rest D σ (upd H1 p (.lst (xs ++ ys))))
    (hbase : attributeBase a "extend" X.env (eval a X.env) = eval a X.env := by rfl)
    (hfew : ((backTo p (starEach [e] X.env)).all (fun x => !x.1) && (backToKw p (keywordEach [] X.env)).all (fun x => x.1.isSome)
      && decide ([e].length + ([] : List Keyword).length + (if ([] : List Keyword).isEmpty then 0 else 1) < 30)) = true := by rfl)
    (hline : (apos.endLine == p.line) = true := by rfl) (he : starEach [e] X.env = (false, eval e X.env) :: starEach [] X.env := by rfl) (hplain : (backTo p (starEach [] X.env)).any (·.1) = false := by rfl)
    (hs : swapsWith (.Call (.Attribute a "extend" apos) [e] [] p) none pos.line X.env = pure false := by rfl) : RSs X (.Expr (.Call (.Attribute a "extend" apos) [e] [] p) pos :: rest) D σ H :=
  RSs.cons (RS.of (ps_expr (pe_bm PySem.F.plainAttrs_list PySem.F.slot_list_extend PySem.F.type_list_extend mt_extend pe_re (pa_cons pe_re pa_nil he) hbase hfew hline he hplain) hs) (ha H (Rel.rf _) _ fun o H1 r1 po => by
    obtain ⟨p, xs, eo, hp⟩ := hl o H1 r1 po
    subst eo
    refine ⟨.inl ⟨rfl, _, SqL.of hp⟩, hv H1 r1 _ fun v H2 r2 pv => ?_⟩
    obtain ⟨p2, ys, q2, zs, e2, e3, hp2, hq2, hz, q⟩ := k (.ref p) v H2 (Rel.tr r1 r2) (Mo.mo r2 po) pv
    exact ⟨p2, q2, ys, zs, e2, by rw [e3], hp2, hq2, Nat.le_trans (Nat.le_of_lt hz) (by decide), q⟩))
/-- raise ..: a way that is never come to -/
theorem b_never {st : Stmt} (h : False) : RSs X (st :: rest) D σ H := h.elim
/-! ### loops -/
theorem b_while (W : Nat → SS → Hp → Prop) (m0 : Nat) (h0 : W m0 σ H) (hs : ∀ n σ1 H1, W n σ1 H1 → ∃ t : Bool → Prop, ET R X c σ1 H1 t ∧ (t true → ∀ H2, R H1 H2 → RSs X body { D with nx := fun σ' H' => ∃ m, m < n ∧ W m σ' H', ct := fun σ' H' => ∃ m, m < n ∧ W m σ' H', bk := RSs X rest D } σ1 H2) ∧ (t false → ∀ H2, R H1 H2 → RSs X rest D σ1 H2))
    (hp : PassesOwn (model X.prog X.w) X.A X.env X.xe) : RSs X (.While c body [] pos :: rest) D σ H :=
  RSs.cons (RS.of (ps_while hp pt_rt pss_rs) ⟨W, ⟨m0, h0⟩, fun n σ1 H1 w => by
    obtain ⟨t, hc, h1, h2⟩ := hs n σ1 H1 w
    refine hc H1 (Rel.rf _) _ fun v H2 r p => ?_
    cases v with
    | true => exact ⟨_, fun σ' H' z => z, h1 p H2 r⟩
    | false => exact h2 p H2 r⟩)
/-- over any walk -/
theorem b_forW {tg iter : Expr} {wi : TI} {g : TG} (hp : PassesOwn (model X.prog X.w) X.A X.env X.xe) (hc : X.calm = true) (hi : PI X tg iter wi) (hg : PG X tg g) (hfs : ∀ x, foldedSetIterable iter X.env x = pure x)
    (h : wi σ H fun J H1 => ∃ n G Y, Walk J n G Y ∧ ∃ Pv : Nat → SS → Hp → Prop, Pv 0 σ H1 ∧ (∀ i σ H, i ≤ n → Pv i σ H → G H) ∧
      (∀ i x σ H H', i < n → Pv i σ H → Y i H x H' → g x σ H' fun σ2 H2 => RSs X body { D with nx := Pv (i + 1), ct := Pv (i + 1), bk := RSs X rest D } σ2 H2) ∧ ∀ σ H, Pv n σ H → RSs X rest D σ H)
    (hmono : ∀ Q Q' : It → Hp → Prop, (∀ J H1, Q J H1 → Q' J H1) → wi σ H Q → wi σ H Q') : RSs X (.For tg iter body [] pos :: rest) D σ H :=
  RSs.cons (RS.of (ps_for hp hc hi hg pss_rs hfs) (hmono _ _ (fun J H1 ⟨n, G, Y, w, Pv, h0, hG, hs, hd⟩ => for_it (D := { D with nx := RSs X rest D }) w Pv h0 hG hs hd) h))
theorem re_mono {e : Expr} {Q Q' : VK} (k : ∀ v H1, Q v H1 → Q' v H1) (h : RE X e σ H Q) : RE X e σ H Q' := fun pins s I => thn (h pins s I) fun v s1 ⟨y, H1, I1, r, q⟩ => ⟨y, H1, I1, r, k y H1 q⟩
theorem ra_mono {es : List Expr} {Q Q' : List V → Hp → Prop} (k : ∀ v H1, Q v H1 → Q' v H1) (h : RA X es σ H Q) : RA X es σ H Q' := fun pos pins s I => thn (h pos pins s I) fun v s1 ⟨y, H1, I1, r, q⟩ => ⟨y, H1, I1, r, k y H1 q⟩
/-- for i in range(n) -/
theorem b_forR1 (j : Nat) {n : Int} {y : Str} {py : Pos} (ha : EV R X a σ H (isI n)) (hn : decide (-(2 ^ 62) ≤ n ∧ n < 2 ^ 62) = true) (hm : X.mg "range" = none) (Pv : Nat → SS → Hp → Prop) (h0 : ∀ H1, R H H1 → Pv 0 σ H1)
    (hs : ∀ (i : Nat) σ1 H1, (i : Int) < n → Pv i σ1 H1 → RSs X body { D with nx := Pv (i + 1), ct := Pv (i + 1), bk := RSs X rest D } (σ1.set j (some (.int (i : Int)))) H1) (hd : ∀ σ1 H1, Pv n.toNat σ1 H1 → RSs X rest D σ1 H1)
    (hN : X.N.Nodup) (hp : PassesOwn (model X.prog X.w) X.A X.env X.xe) (hg : Gl X "range" := by rfl) (hc : X.calm = true := by rfl) (hi : X.N[j]? = some y := by rfl) (hx : Loc X.env.scope y := by first | exact Or.inl rfl | exact Or.inr rfl)
    (hf : X.fn y = true ∨ X.env.scope.names.lookup y = some .local := by first | exact .inl rfl | exact .inr rfl) (hst : starEach [a] X.env = [(false, eval a X.env)] := by rfl) (hfs : ∀ x, foldedSetIterable (.Call (.Name "range" p) [a] [] pos') X.env x = pure x := by intro _; rfl) :
    RSs X (.For (.Name y py) (.Call (.Name "range" p) [a] [] pos') body [] pos :: rest) D σ H := by
  have hn2 := of_decide_eq_true hn
  refine b_forW hp hc (pi_range1 hg hm (pa_cons pe_re pa_nil hst) hst) (pg_name hN hi hx hf) hfs ?_ fun Q Q' k h => ?_
  · refine ha H (Rel.rf _) _ fun v H1 r pv => ?_
    cases pv
    refine ⟨n, rfl, hn2.1, hn2.2, n.toNat, _, _, walk_range, Pv, h0 H1 r, fun _ _ _ _ _ => trivial, fun i x σ1 H1 H2 hi pv y => ?_, hd⟩
    obtain ⟨rfl, rfl⟩ := y
    have e : (0 : Int) + (i : Int) = (i : Int) := Int.zero_add _
    show RSs X body _ (σ1.set j (some (V.int ((0 : Int) + (i : Int))))) _
    rw [e]
    exact hs i σ1 _ (by omega) pv
  · exact re_mono (fun v H1 ⟨n, e, h1, h2, q⟩ => ⟨n, e, h1, h2, k _ _ q⟩) h
/-- for i in range(lo, n) -/
theorem b_forR2 (j : Nat) {lo n : Int} {y : Str} {py : Pos} (ha : EV R X a σ H (isI lo)) (hb : EV R X b σ H (isI n)) (hn : -(2 ^ 62) ≤ lo ∧ lo < 2 ^ 62 ∧ -(2 ^ 62) ≤ n ∧ n < 2 ^ 62) (hm : X.mg "range" = none) (Pv : Nat → SS → Hp → Prop) (h0 : ∀ H1, R H H1 → Pv 0 σ H1)
    (hs : ∀ (i : Nat) σ1 H1, lo + (i : Int) < n → Pv i σ1 H1 → RSs X body { D with nx := Pv (i + 1), ct := Pv (i + 1), bk := RSs X rest D } (σ1.set j (some (.int (lo + (i : Int))))) H1) (hd : ∀ σ1 H1, Pv (n - lo).toNat σ1 H1 → RSs X rest D σ1 H1)
    (hN : X.N.Nodup) (hp : PassesOwn (model X.prog X.w) X.A X.env X.xe) (hg : Gl X "range" := by rfl) (hc : X.calm = true := by rfl) (hi : X.N[j]? = some y := by rfl) (hx : Loc X.env.scope y := by first | exact Or.inl rfl | exact Or.inr rfl)
    (hf : X.fn y = true ∨ X.env.scope.names.lookup y = some .local := by first | exact .inl rfl | exact .inr rfl) (hst : starEach [a, b] X.env = [(false, eval a X.env), (false, eval b X.env)] := by rfl) (hst2 : starEach [b] X.env = [(false, eval b X.env)] := by rfl) (hfs : ∀ x, foldedSetIterable (.Call (.Name "range" p) [a, b] [] pos') X.env x = pure x := by intro _; rfl) :
    RSs X (.For (.Name y py) (.Call (.Name "range" p) [a, b] [] pos') body [] pos :: rest) D σ H := by
  refine b_forW hp hc (pi_range2 hg hm (pa_cons pe_re (pa_cons pe_re pa_nil hst2) (by rw [hst, hst2])) hst hst2) (pg_name hN hi hx hf) hfs ?_ fun Q Q' k h => ?_
  · refine ha H (Rel.rf _) _ fun v H1 r pv => ?_
    cases pv
    refine hb H1 r _ fun w H2 r2 pw => ?_
    cases pw
    refine ⟨lo, n, rfl, hn, (n - lo).toNat, _, _, walk_range, Pv, h0 H2 (Rel.tr r r2), fun _ _ _ _ _ => trivial, fun i x σ1 H1 H2 hi pv y => ?_, hd⟩
    obtain ⟨rfl, rfl⟩ := y
    exact hs i σ1 _ (by omega) pv
  · exact re_mono (fun v H1 h => re_mono (fun w H2 ⟨i, n, e, h1, q⟩ => ⟨i, n, e, h1, k _ _ q⟩) h) h
/-- for x in a tuple, a list that the body leaves -/
theorem b_forT (j : Nat) {y : Str} {py : Pos} (ha : EV R X a σ H Pa) (hP : ∀ v H1, R H H1 → Pa v H1 → ∃ p xs, ∃ Pv : Nat → SS → Hp → Prop, v = .ref p ∧ H1 p = some (.tup xs) ∧ Pv 0 σ H1 ∧ (∀ i σ1 H2, Pv i σ1 H2 → H2 p = some (.tup xs)) ∧
      (∀ (i : Nat) x σ1 H1, xs[i]? = some x → Pv i σ1 H1 → RSs X body { D with nx := Pv (i + 1), ct := Pv (i + 1), bk := RSs X rest D } (σ1.set j (some x)) H1) ∧ ∀ σ1 H1, Pv xs.length σ1 H1 → RSs X rest D σ1 H1)
    (hN : X.N.Nodup) (hp : PassesOwn (model X.prog X.w) X.A X.env X.xe) (hc : X.calm = true := by rfl) (hi : X.N[j]? = some y := by rfl) (hx : Loc X.env.scope y := by first | exact Or.inl rfl | exact Or.inr rfl)
    (hf : X.fn y = true ∨ X.env.scope.names.lookup y = some .local := by first | exact .inl rfl | exact .inr rfl) (hfs : ∀ x, foldedSetIterable a X.env x = pure x := by intro _; rfl) :
    RSs X (.For (.Name y py) a body [] pos :: rest) D σ H := by
  refine b_forW hp hc (pi_tup pe_re) (pg_name hN hi hx hf) hfs ?_ fun Q Q' k h => re_mono (fun v H1 ⟨p, e, hx, q⟩ => ⟨p, e, hx, k _ _ q⟩) h
  refine ha H (Rel.rf _) _ fun v H1 r pv => ?_
  obtain ⟨p, xs, Pv, e, hp, z0, zs, hs, hd⟩ := hP v H1 r pv
  refine ⟨p, e, ⟨xs, SqT.of hp⟩, xs.length, _, _, walk_tup, Pv, z0, fun i σ1 H2 _ pv => SqT.of (zs i σ1 H2 pv), fun i x σ1 H2 H3 hi pv y => ?_, hd⟩
  obtain ⟨rfl, hx⟩ := y
  exact hs i x σ1 _ hx pv
theorem b_forL (j : Nat) {y : Str} {py : Pos} (ha : EV R X a σ H Pa) (hP : ∀ v H1, R H H1 → Pa v H1 → ∃ p xs, ∃ Pv : Nat → SS → Hp → Prop, v = .ref p ∧ H1 p = some (.lst xs) ∧ Pv 0 σ H1 ∧ (∀ i σ1 H2, Pv i σ1 H2 → H2 p = some (.lst xs)) ∧
      (∀ (i : Nat) x σ1 H1, xs[i]? = some x → Pv i σ1 H1 → RSs X body { D with nx := Pv (i + 1), ct := Pv (i + 1), bk := RSs X rest D } (σ1.set j (some x)) H1) ∧ ∀ σ1 H1, Pv xs.length σ1 H1 → RSs X rest D σ1 H1)
    (hN : X.N.Nodup) (hp : PassesOwn (model X.prog X.w) X.A X.env X.xe) (hc : X.calm = true := by rfl) (hi : X.N[j]? = some y := by rfl) (hx : Loc X.env.scope y := by first | exact Or.inl rfl | exact Or.inr rfl)
    (hf : X.fn y = true ∨ X.env.scope.names.lookup y = some .local := by first | exact .inl rfl | exact .inr rfl) (hfs : ∀ x, foldedSetIterable a X.env x = pure x := by intro _; rfl) :
    RSs X (.For (.Name y py) a body [] pos :: rest) D σ H := by
  refine b_forW hp hc (pi_list pe_re) (pg_name hN hi hx hf) hfs ?_ fun Q Q' k h => re_mono (fun v H1 ⟨p, e, hx, q⟩ => ⟨p, e, hx, k _ _ q⟩) h
  refine ha H (Rel.rf _) _ fun v H1 r pv => ?_
  obtain ⟨p, xs, Pv, e, hp, z0, zs, hs, hd⟩ := hP v H1 r pv
  refine ⟨p, e, ⟨xs, SqL.of hp⟩, xs.length, _, _, walk_list, Pv, z0, fun i σ1 H2 _ pv => SqL.of (zs i σ1 H2 pv), fun i x σ1 H2 H3 hi pv y => ?_, hd⟩
  obtain ⟨rfl, hx⟩ := y
  exact hs i x σ1 _ hx pv
end
/-! ### comprehensions: all that stood stands, a new list -/
section
variable {e elt tg iter c : Expr} {scope : Scope} {own : List (Str × Nat)} {pos p pos' apos : Pos} {x : Str} {es : List Expr}
/-- what stands in a comprehension's block -/
def EVB (X : Cx) (scope : Scope) (e : Expr) (σ : SS) (H : Hp) (P : HF) : Prop := ∀ (s : Shared) (H0 : Hp) (C : Addr) (cl : List (Str × Addr)) (fp : List Addr), EV Same (X.blk s H0 scope (compEnvC scope cl C X.env) fp) e σ H P
def ETB (X : Cx) (scope : Scope) (e : Expr) (σ : SS) (H : Hp) (p : Bool → Prop) : Prop := ∀ (s : Shared) (H0 : Hp) (C : Addr) (cl : List (Str × Addr)) (fp : List Addr), ET Same (X.blk s H0 scope (compEnvC scope cl C X.env) fp) e σ H p
def REB (X : Cx) (scope : Scope) (e : Expr) : TE := fun σ H Q => ∀ (s : Shared) (H0 : Hp) (C : Addr) (cl : List (Str × Addr)) (fp : List Addr), RE (X.blk s H0 scope (compEnvC scope cl C X.env) fp) e σ H Q
def RTB (X : Cx) (scope : Scope) (e : Expr) : TT := fun σ H Q => ∀ (s : Shared) (H0 : Hp) (C : Addr) (cl : List (Str × Addr)) (fp : List Addr), RT (X.blk s H0 scope (compEnvC scope cl C X.env) fp) e σ H Q
theorem pe_reb (s : Shared) (H0 : Hp) (C : Addr) (cl : List (Str × Addr)) (fp : List Addr) : PE (X.blk s H0 scope (compEnvC scope cl C X.env) fp) e (REB X scope e) := ⟨fun pins s1 σ H Q I h => h s H0 C cl fp pins s1 I⟩
theorem pt_rtb (s : Shared) (H0 : Hp) (C : Addr) (cl : List (Str × Addr)) (fp : List Addr) : PTs (X.blk s H0 scope (compEnvC scope cl C X.env) fp) [e] (RTB X scope e) := pts_one ⟨fun pins s1 σ H Q I h => h s H0 C cl fp pins s1 I⟩
/-- the made list so far: what of the first i turns was kept -/
def kept {β : Type} (f : Nat → Bool) (val : Nat → β) (i : Nat) : List β := ((List.range i).filter f).map val
theorem kept_zero {β : Type} (f : Nat → Bool) (val : Nat → β) : kept f val 0 = [] := rfl
theorem kept_yes {β : Type} {f : Nat → Bool} {val : Nat → β} {i : Nat} (h : f i = true) : kept f val (i + 1) = kept f val i ++ [val i] := by
  unfold kept
  rw [List.range_succ, List.filter_append, List.map_append, List.filter_cons, if_pos (by rw [h])]
  rfl
theorem kept_no {β : Type} {f : Nat → Bool} {val : Nat → β} {i : Nat} (h : f i = false) : kept f val (i + 1) = kept f val i := by
  unfold kept
  rw [List.range_succ, List.filter_append, List.map_append, List.filter_cons, if_neg (by rw [h]; decide)]
  exact List.append_nil _
theorem kept_len {β : Type} (f : Nat → Bool) (val : Nat → β) (i : Nat) : (kept f val i).length ≤ i := by
  unfold kept
  rw [List.length_map]
  have h := List.length_filter_le f (List.range i)
  rw [List.length_range] at h
  exact h
/-- the core: a walk J of n turns, how the target stores (Si), whether an item is kept (f), its element (F (val i)) -/
theorem lcW {β : Type} {J : It} {n : Nat} {G : Hp → Prop} {Y : Nat → Hp → V → Hp → Prop} (w : Walk J n G Y) {g : TG} {tt : TT} {vs : List Nat} {H1 : Hp} {Q : VK} (f : Nat → Bool) (val : Nat → β) (F : β → HF) (hF : ∀ b, Mo Nl (F b)) (hn : n ≤ 1000000)
    (hG : ∀ H2, Same H1 H2 → G H2) (Si : Nat → SS → Hp → Prop)
    (hg : ∀ i v H2 H3, i < n → Same H1 H2 → Y i H2 v H3 → Same H2 H3 ∧ ∀ K : SS → Hp → Prop, (∀ σ2, wipe σ2 vs = wipe σ vs → Si i σ2 H3 → K σ2 H3) → g v (wipe σ vs) H3 K)
    (ht : ∀ i σ2 H2, i < n → Same H1 H2 → Si i σ2 H2 → ∀ K : Bool → Hp → Prop, (∀ H3, Same H2 H3 → K (f i) H3) → tt σ2 H2 K)
    (hS : ∀ i σ2 H2 H3, Same H2 H3 → Si i σ2 H2 → Si i σ2 H3)
    (he : ∀ i σ2 H2, i < n → f i = true → Same H1 H2 → Si i σ2 H2 → EVB X scope e σ2 H2 (F (val i)))
    (q : ∀ D H2, Same H1 H2 → lstOf F (kept f val n) (.ref D) H2 → Q (.ref D) H2) :
    ∀ D, H1 D = none → ∃ W : Nat → Nat → Hp → Prop, (∃ m, W 0 m (upd H1 D (.lst []))) ∧ ∀ i m H, W i m H →
  (J.stop i H ∧ Q (.ref D) H) ∨ (J.go i H ∧ ∃ Nx : Hp → Prop,
    (∀ H', Nx H' → ∃ m', m' < m ∧ W (i + 1) m' H') ∧ ∀ x H', J.yld i H x H' → g x (wipe σ vs) H' fun σ2 H2 => wipe σ2 vs = wipe σ vs ∧ tt σ2 H2 fun b H3 =>
    if b = true then REB X scope e σ2 H3 fun y H4 => ∃ acc, H4 D = some (.lst acc) ∧ acc.length < sizeLine ∧ Nx (upd H4 D (.lst (acc ++ [y]))) else Nx H3) := by
  intro D hD
  have mt0 : ∀ {H2 : Hp} {o : HO}, Same H1 H2 → Same H1 (upd H2 D o) := fun {H2 o} s b u hb => by
    rw [upd_ne (ne_of_none hb hD)]
    exact s b u hb
  refine lc_it w (fun i H2 => Same H1 H2 ∧ ∃ acc, H2 D = some (.lst acc) ∧ All2 F acc (kept f val i) H2) ⟨mt0 (Same.refl _), [], upd_same, by rw [kept_zero]; exact All2.nil⟩ (fun i H2 _ ⟨s, _⟩ => hG H2 s) (fun i v H2 H3 hi ⟨s, acc, ha, q2⟩ y => ?_) (fun H2 ⟨s, acc, ha, q2⟩ => q D H2 s ⟨D, acc, rfl, ha, q2⟩)
  obtain ⟨s3, hg2⟩ := hg i v H2 H3 hi s y
  refine hg2 _ fun σ2 hw si => ⟨hw, ht i σ2 H3 hi (s.trans s3) si _ fun H4 s4 => ?_⟩
  have q4 : All2 F acc (kept f val i) H4 := All2.mo (R := Same) (h := fun b => @moS (F b) (hF b)) (s3.trans s4) q2
  have a4 : H4 D = some (.lst acc) := s4 _ _ (s3 _ _ ha)
  cases hfi : f i with
  | false =>
    show _ ∧ _
    rw [kept_no hfi]
    exact ⟨(s.trans s3).trans s4, acc, a4, q4⟩
  | true =>
    show REB X scope e σ2 H4 _
    intro s0 H0 C cl fp
    refine he i σ2 H4 hi hfi ((s.trans s3).trans s4) (hS i σ2 H3 H4 s4 si) s0 H0 C cl fp H4 (Same.refl _) _ fun y H5 s5 py => ?_
    have a5 : H5 D = some (.lst acc) := s5 _ _ a4
    have q5 : All2 F acc (kept f val i) H5 := All2.mo (R := Same) (h := fun b => @moS (F b) (hF b)) s5 q4
    refine ⟨acc, a5, ?_, mt0 (((s.trans s3).trans s4).trans s5), _, upd_same, ?_⟩
    · have := kept_len f val i
      rw [q5.1]
      exact Nat.lt_of_lt_of_le (Nat.lt_of_le_of_lt this (Nat.lt_of_lt_of_le hi hn)) (by decide)
    · rw [kept_yes hfi]
      exact All2.mo (R := Nl) (h := hF) (nl_upd a5) (q5.snoc py)
theorem wipe_set {σ : SS} {j : Nat} {v : Option V} : ∀ {vs : List Nat}, j ∈ vs → wipe (σ.set j v) vs = wipe σ vs
  | [], h => by cases h
  | k :: vs, h => by
    show (wipe (σ.set j v) vs).set k none = (wipe σ vs).set k none
    by_cases e : j ∈ vs
    · rw [wipe_set e]
    · have e2 : j = k := by
        rcases List.mem_cons.mp h with z | z
        · exact z
        · exact absurd z e
      subst e2
      have h2 : ∀ (ws : List Nat), j ∉ ws → wipe (σ.set j v) ws = (wipe σ ws).set j v := fun ws => by
        induction ws with
        | nil => intro _; rfl
        | cons a r ih =>
          intro hn
          show (wipe (σ.set j v) r).set a none = ((wipe σ r).set a none).set j v
          rw [ih fun z => hn (List.mem_cons_of_mem _ z), List.set_comm]
          exact fun z => hn (by rw [z]; exact List.mem_cons_self ..)
      rw [h2 vs e, List.set_set]
theorem wipe_wipe {σ : SS} : ∀ {vs : List Nat}, wipe (wipe σ vs) vs = wipe σ vs := by
  intro vs
  have h : ∀ (ws us : List Nat), (∀ k ∈ us, k ∈ ws) → wipe (wipe σ us) ws = wipe σ ws := by
    intro ws us
    induction us with
    | nil => intro _; rfl
    | cons a r ih =>
      intro hs
      show wipe ((wipe σ r).set a none) ws = wipe σ ws
      rw [wipe_set (hs a (List.mem_cons_self ..)), ih fun k hk => hs k (List.mem_cons_of_mem _ hk)]
  exact h vs vs fun k hk => hk
/-- a reading gives .. -/
def EVt (t : TE) (σ : SS) (H : Hp) (P : HF) : Prop := ∀ H1, Same H H1 → ∀ Q : VK, (∀ v H2, Same H1 H2 → P v H2 → Q v H2) → t σ H1 Q
/-- [e for x in t if ..], t a tuple -/
theorem ev_lcT (j : Nat) {own : List (Str × Nat)} {ifs : List Expr} {tt : TT} {y : Str} {py : Pos} {xs : List V} {β : Type} (f : Nat → Bool) (val : Nat → β) (F : β → HF) (hF : ∀ b, Mo Nl (F b)) (hn : xs.length ≤ 1000000)
    (ha : EV Same X iter σ H (tupAt xs))
    (ht : ∀ i v H2, xs[i]? = some v → Same H H2 → ∀ K : Bool → Hp → Prop, (∀ H3, Same H2 H3 → K (f i) H3) → tt ((wipe σ (own.map (·.2))).set j (some v)) H2 K)
    (he : ∀ i v H2, xs[i]? = some v → f i = true → Same H H2 → EVB X scope elt ((wipe σ (own.map (·.2))).set j (some v)) H2 (F (val i)))
    (hN : X.N.Nodup) (htt : ∀ (s : Shared) (H0 : Hp) (C : Addr) (cl : List (Str × Addr)) (fp : List Addr), PTs (X.blk s H0 scope (compEnvC scope cl C X.env) fp) ifs tt) (ok : BlkOk X.N X.env.scope scope own) (hj : j ∈ own.map (·.2))
    (hg : ∀ (s : Shared) (H0 : Hp) (C : Addr) (cl : List (Str × Addr)) (fp : List Addr), PG (X.blk s H0 scope (compEnvC scope cl C X.env) fp) (.Name y py) (gName j)) (hc : X.calm = true := by rfl) (hfs : ∀ x, foldedSetIterable iter X.env x = pure x := by intro _; rfl) :
    EV Same X (.ListComp elt [⟨.Name y py, iter, ifs, 0⟩] scope pos) σ H (lstOf F (kept f val xs.length)) :=
  EV.by (pe_lc hc hN (pi_tup pe_re) ok hg htt pe_reb hfs) fun H1 r Q q => ha H1 r _ fun v H2 r2 ⟨p, e, hp⟩ => ⟨p, e, ⟨xs, SqT.of hp⟩, by
    refine lcW walk_tup f val F hF hn (fun H3 s => SqT.of (s _ _ hp)) (fun i σ2 _ => ∃ v, xs[i]? = some v ∧ σ2 = (wipe σ (own.map (·.2))).set j (some v)) (fun i v H3 H4 hi s y => ?_) (fun i σ2 H3 hi s ⟨v, hv, eq⟩ K k => ?_) (fun i σ2 H3 H4 _ z => z) (fun i σ2 H3 hi hf s ⟨v, hv, eq⟩ => ?_) (fun D H3 s z => q _ _ (r2.trans s) z)
    · obtain ⟨rfl, hv⟩ := y
      exact ⟨Same.refl _, fun K k => k _ (by rw [wipe_set hj, wipe_wipe]) ⟨v, hv, rfl⟩⟩
    · rw [eq]; exact ht i v H3 hv ((r.trans r2).trans s) K k
    · rw [eq]; exact he i v H3 hv hf ((r.trans r2).trans s)⟩
/-- [e for x in l if ..], l a list -/
theorem ev_lcL (j : Nat) {own : List (Str × Nat)} {ifs : List Expr} {tt : TT} {y : Str} {py : Pos} {xs : List V} {β : Type} (f : Nat → Bool) (val : Nat → β) (F : β → HF) (hF : ∀ b, Mo Nl (F b)) (hn : xs.length ≤ 1000000)
    (ha : EV Same X iter σ H (lstAt xs))
    (ht : ∀ i v H2, xs[i]? = some v → Same H H2 → ∀ K : Bool → Hp → Prop, (∀ H3, Same H2 H3 → K (f i) H3) → tt ((wipe σ (own.map (·.2))).set j (some v)) H2 K)
    (he : ∀ i v H2, xs[i]? = some v → f i = true → Same H H2 → EVB X scope elt ((wipe σ (own.map (·.2))).set j (some v)) H2 (F (val i)))
    (hN : X.N.Nodup) (htt : ∀ (s : Shared) (H0 : Hp) (C : Addr) (cl : List (Str × Addr)) (fp : List Addr), PTs (X.blk s H0 scope (compEnvC scope cl C X.env) fp) ifs tt) (ok : BlkOk X.N X.env.scope scope own) (hj : j ∈ own.map (·.2))
    (hg : ∀ (s : Shared) (H0 : Hp) (C : Addr) (cl : List (Str × Addr)) (fp : List Addr), PG (X.blk s H0 scope (compEnvC scope cl C X.env) fp) (.Name y py) (gName j)) (hc : X.calm = true := by rfl) (hfs : ∀ x, foldedSetIterable iter X.env x = pure x := by intro _; rfl) :
    EV Same X (.ListComp elt [⟨.Name y py, iter, ifs, 0⟩] scope pos) σ H (lstOf F (kept f val xs.length)) :=
  EV.by (pe_lc hc hN (pi_list pe_re) ok hg htt pe_reb hfs) fun H1 r Q q => ha H1 r _ fun v H2 r2 ⟨p, e, hp⟩ => ⟨p, e, ⟨xs, SqL.of hp⟩, by
    refine lcW walk_list f val F hF hn (fun H3 s => SqL.of (s _ _ hp)) (fun i σ2 _ => ∃ v, xs[i]? = some v ∧ σ2 = (wipe σ (own.map (·.2))).set j (some v)) (fun i v H3 H4 hi s y => ?_) (fun i σ2 H3 hi s ⟨v, hv, eq⟩ K k => ?_) (fun i σ2 H3 H4 _ z => z) (fun i σ2 H3 hi hf s ⟨v, hv, eq⟩ => ?_) (fun D H3 s z => q _ _ (r2.trans s) z)
    · obtain ⟨rfl, hv⟩ := y
      exact ⟨Same.refl _, fun K k => k _ (by rw [wipe_set hj, wipe_wipe]) ⟨v, hv, rfl⟩⟩
    · rw [eq]; exact ht i v H3 hv ((r.trans r2).trans s) K k
    · rw [eq]; exact he i v H3 hv hf ((r.trans r2).trans s)⟩
/-- [e for i in range(n) if ..] -/
theorem lt_R (j : Nat) {own : List (Str × Nat)} {tt : TT} {a : Expr} {n : Nat} {β : Type} (f : Nat → Bool) (val : Nat → β) (F : β → HF) (hF : ∀ b, Mo Nl (F b)) (hn : n ≤ 1000000)
    (ha : EV Same X a σ H (isI (n : Int)))
    (ht : ∀ (i : Nat) H2, i < n → Same H H2 → ∀ K : Bool → Hp → Prop, (∀ H3, Same H2 H3 → K (f i) H3) → tt ((wipe σ (own.map (·.2))).set j (some (.int (i : Int)))) H2 K)
    (he : ∀ (i : Nat) H2, i < n → f i = true → Same H H2 → EVB X scope elt ((wipe σ (own.map (·.2))).set j (some (.int (i : Int)))) H2 (F (val i)))
    (hj : j ∈ own.map (·.2)) (hst : starEach [a] X.env = [(false, eval a X.env)] := by rfl) :
    EVt (tLc (iRng1 (tCons (RE X a) tNil)) (gName j) tt (REB X scope elt) (own.map (·.2))) σ H (lstOf F (kept f val n)) :=
  fun H1 r Q q => ha H1 r _ fun v H2 r2 pv => by
    cases pv
    refine ⟨(n : Int), rfl, by omega, by omega, ?_⟩
    rw [Int.toNat_natCast]
    have z0 : ∀ i : Nat, (0 : Int) + (i : Int) = (i : Int) := fun i => Int.zero_add _
    refine lcW walk_range f val F hF hn (fun H3 s => trivial) (fun i σ2 _ => σ2 = (wipe σ (own.map (·.2))).set j (some (.int (i : Int)))) (fun i v H3 H4 hi s y => ?_) (fun i σ2 H3 hi s eq K k => ?_) (fun i σ2 H3 H4 _ z => z) (fun i σ2 H3 hi hf s eq => ?_) (fun D H3 s z => q _ _ (r2.trans s) z)
    · obtain ⟨rfl, rfl⟩ := y
      refine ⟨Same.refl _, fun K k => k _ (by rw [wipe_set hj, wipe_wipe]) (congrArg (fun z => List.set (wipe σ (own.map (·.2))) j (some (V.int z))) (z0 i))⟩
    · rw [eq]; exact ht i H3 hi ((r.trans r2).trans s) K k
    · rw [eq]; exact he i H3 hi hf ((r.trans r2).trans s)
/-- [e for i in range(n) if ..] -/
theorem ev_lcR (j : Nat) {own : List (Str × Nat)} {ifs : List Expr} {tt : TT} {y : Str} {py : Pos} {a : Expr} {n : Nat} {β : Type} (f : Nat → Bool) (val : Nat → β) (F : β → HF) (hF : ∀ b, Mo Nl (F b)) (hn : n ≤ 1000000) (hm : X.mg "range" = none)
    (ha : EV Same X a σ H (isI (n : Int)))
    (ht : ∀ (i : Nat) H2, i < n → Same H H2 → ∀ K : Bool → Hp → Prop, (∀ H3, Same H2 H3 → K (f i) H3) → tt ((wipe σ (own.map (·.2))).set j (some (.int (i : Int)))) H2 K)
    (he : ∀ (i : Nat) H2, i < n → f i = true → Same H H2 → EVB X scope elt ((wipe σ (own.map (·.2))).set j (some (.int (i : Int)))) H2 (F (val i)))
    (hN : X.N.Nodup) (htt : ∀ (s : Shared) (H0 : Hp) (C : Addr) (cl : List (Str × Addr)) (fp : List Addr), PTs (X.blk s H0 scope (compEnvC scope cl C X.env) fp) ifs tt) (ok : BlkOk X.N X.env.scope scope own) (hj : j ∈ own.map (·.2))
    (hg : ∀ (s : Shared) (H0 : Hp) (C : Addr) (cl : List (Str × Addr)) (fp : List Addr), PG (X.blk s H0 scope (compEnvC scope cl C X.env) fp) (.Name y py) (gName j)) (hc : X.calm = true := by rfl) (hgr : Gl X "range" := by rfl) (hst : starEach [a] X.env = [(false, eval a X.env)] := by rfl) (hfs : ∀ x, foldedSetIterable (.Call (.Name "range" p) [a] [] pos') X.env x = pure x := by intro _; rfl) :
    EV Same X (.ListComp elt [⟨.Name y py, .Call (.Name "range" p) [a] [] pos', ifs, 0⟩] scope pos) σ H (lstOf F (kept f val n)) :=
  EV.by (pe_lc hc hN (pi_range1 hgr hm (pa_cons pe_re pa_nil hst) hst) ok hg htt pe_reb hfs) (lt_R j f val F hF hn ha ht he hj hst)
/-- [e for i in range(n) if ..] -/
theorem b_lcR (i0 : Nat) {yy : Str} {pyy spos : Pos} {rest : List Stmt} (j : Nat) {own : List (Str × Nat)} {ifs : List Expr} {tt : TT} {y : Str} {py : Pos} {a : Expr} {n : Nat} {β : Type} (f : Nat → Bool) (val : Nat → β) (F : β → HF) (hF : ∀ b, Mo Nl (F b)) (hn : n ≤ 1000000) (hm : X.mg "range" = none)
    (ha : EV Same X a σ H (isI (n : Int)))
    (ht : ∀ (i : Nat) H2, i < n → Same H H2 → ∀ K : Bool → Hp → Prop, (∀ H3, Same H2 H3 → K (f i) H3) → tt ((wipe σ (own.map (·.2))).set j (some (.int (i : Int)))) H2 K)
    (he : ∀ (i : Nat) H2, i < n → f i = true → Same H H2 → EVB X scope elt ((wipe σ (own.map (·.2))).set j (some (.int (i : Int)))) H2 (F (val i)))
    (hN : X.N.Nodup) (htt : ∀ (s : Shared) (H0 : Hp) (C : Addr) (cl : List (Str × Addr)) (fp : List Addr), PTs (X.blk s H0 scope (compEnvC scope cl C X.env) fp) ifs tt) (ok : BlkOk X.N X.env.scope scope own) (hj : j ∈ own.map (·.2))
    (hg : ∀ (s : Shared) (H0 : Hp) (C : Addr) (cl : List (Str × Addr)) (fp : List Addr), PG (X.blk s H0 scope (compEnvC scope cl C X.env) fp) (.Name y py) (gName j)) (k : ∀ v H1, Same H H1 → lstOf F (kept f val n) v H1 → RSs X rest D (σ.set i0 (some v)) H1)
    (hsw : swapsWith (.ListComp elt [⟨.Name y py, .Call (.Name "range" p) [a] [] pos', ifs, 0⟩] scope pos) (some (.Name yy pyy)) spos.line X.env = pure true) (hi0 : X.N[i0]? = some yy := by rfl) (hyl : X.env.scope.names.lookup yy = some .local := by rfl) (hc : X.calm = true := by rfl) (hgr : Gl X "range" := by rfl) (hst : starEach [a] X.env = [(false, eval a X.env)] := by rfl) (hfs : ∀ x, foldedSetIterable (.Call (.Name "range" p) [a] [] pos') X.env x = pure x := by intro _; rfl) :
    RSs X (.Assign [.Name yy pyy] (.ListComp elt [⟨.Name y py, .Call (.Name "range" p) [a] [] pos', ifs, 0⟩] scope pos) spos :: rest) D σ H :=
  RSs.cons (RS.of (ps_setLc hc hN hi0 hyl hsw (pi_range1 hgr hm (pa_cons pe_re pa_nil hst) hst) ok hg htt pe_reb hfs) (lt_R j f val F hF hn ha ht he hj hst H (Same.refl _) _ fun v H1 s p => k v H1 s p))
/-- the pair's two names stored -/
theorem g_pair {K : PySem.W.Frag} {j l : Nat} {T : Addr} {x y : V} {σ : SS} {H : Hp} {Q : SS → Hp → Prop} (hT : H T = some (.tup [x, y])) (q : Q ((σ.set j (some x)).set l (some y)) H) : gTup K 2 (gCons (gName j) (gCons (gName l) gNil)) (.ref T) σ H Q :=
  ⟨T, _, rfl, SqT.of hT, rfl, x, _, rfl, y, _, rfl, rfl, q⟩
/-- [e for a, b in zip(s, t) if ..], s and t tuples of one length -/
theorem ev_lcZ (j l : Nat) {own : List (Str × Nat)} {ifs : List Expr} {tt : TT} {y z : Str} {py pz pt : Pos} {kt : Nat} {a b : Expr} {xs ys : List V} {β : Type} (f : Nat → Bool) (val : Nat → β) (F : β → HF) (hF : ∀ b, Mo Nl (F b)) (hn : xs.length ≤ 1000000) (hl : xs.length = ys.length) (hm : X.mg "zip" = none)
    (ha : EA Same X [a, b] σ H [tupAt xs, tupAt ys])
    (ht : ∀ i u v H2, xs[i]? = some u → ys[i]? = some v → Same H H2 → ∀ K : Bool → Hp → Prop, (∀ H3, Same H2 H3 → K (f i) H3) → tt (((wipe σ (own.map (·.2))).set j (some u)).set l (some v)) H2 K)
    (he : ∀ i u v H2, xs[i]? = some u → ys[i]? = some v → f i = true → Same H H2 → EVB X scope elt (((wipe σ (own.map (·.2))).set j (some u)).set l (some v)) H2 (F (val i)))
    (hN : X.N.Nodup) (htt : ∀ (s : Shared) (H0 : Hp) (C : Addr) (cl : List (Str × Addr)) (fp : List Addr), PTs (X.blk s H0 scope (compEnvC scope cl C X.env) fp) ifs tt) (ok : BlkOk X.N X.env.scope scope own) (hj : j ∈ own.map (·.2)) (hl2 : l ∈ own.map (·.2))
    (hg : ∀ (s : Shared) (H0 : Hp) (C : Addr) (cl : List (Str × Addr)) (fp : List Addr), PG (X.blk s H0 scope (compEnvC scope cl C X.env) fp) (.Tuple [.Name y py, .Name z pz] kt pt) (gTup X.K 2 (gCons (gName j) (gCons (gName l) gNil)))) (hc : X.calm = true := by rfl) (hgr : Gl X "zip" := by rfl)
    (hst : starEach [a, b] X.env = (false, eval a X.env) :: starEach [b] X.env := by rfl) (hst2 : starEach [b] X.env = (false, eval b X.env) :: starEach [] X.env := by rfl) (hpl : (backTo pos' (starEach [b] X.env)).any (·.1) = false := by rfl) (hfs : ∀ x, foldedSetIterable (.Call (.Name "zip" p) [a, b] [] pos') X.env x = pure x := by intro _; rfl) :
    EV Same X (.ListComp elt [⟨.Tuple [.Name y py, .Name z pz] kt pt, .Call (.Name "zip" p) [a, b] [] pos', ifs, 0⟩] scope pos) σ H (lstOf F (kept f val xs.length)) :=
  EV.by (pe_lc hc hN (RZ.pi_zipA hgr hm pa_ra hst hpl) ok hg htt pe_reb hfs) fun H1 r Q q => ha H1 r _ fun vs H2 r2 fit => by
    obtain ⟨u, v, rfl, ⟨p, rfl, hp⟩, ⟨p2, rfl, hp2⟩⟩ := fit2 fit
    refine ⟨p, p2, xs, ys, rfl, .inr ⟨SqT.of hp, SqT.of hp2, ?_⟩⟩
    have wk : Walk (RZ.ItzT X.K p p2) xs.length (fun H3 => SqT X.K H3 p xs ∧ SqT X.K H3 p2 ys) (YPair (fun i => xs[i]?) (fun i => ys[i]?)) := by
      refine ⟨fun i _ hi q => ?_, fun _ q => ⟨xs, ys, q.1, q.2, by omega⟩, fun i H v H' _ q yy => ?_⟩
      · have h2 : i < ys.length := by omega
        exact ⟨xs, ys, xs[i], ys[i], q.1, q.2, by simp [hi], by simp [h2]⟩
      · obtain ⟨T, x, z, e1, e2, e3, g1, g2⟩ := yy
        exact ⟨T, x, z, e1, e2, e3, g1 xs q.1, g2 ys q.2⟩
    refine lcW wk f val F hF hn (fun H3 s => ⟨SqT.of (s _ _ hp), SqT.of (s _ _ hp2)⟩) (fun i σ2 _ => ∃ u v, xs[i]? = some u ∧ ys[i]? = some v ∧ σ2 = ((wipe σ (own.map (·.2))).set j (some u)).set l (some v)) (fun i v H3 H4 hi s y => ?_) (fun i σ2 H3 hi s ⟨u, v, hu, hv, eq⟩ K k => ?_) (fun i σ2 H3 H4 _ z => z) (fun i σ2 H3 hi hf s ⟨u, v, hu, hv, eq⟩ => ?_) (fun D H3 s z => q _ _ (r2.trans s) z)
    · obtain ⟨T, x, z, rfl, hT, rfl, h4, h5⟩ := y
      exact ⟨smn hT, fun K k => g_pair upd_same (k _ (by rw [wipe_set hl2, wipe_set hj, wipe_wipe]) ⟨x, z, h4, h5, rfl⟩)⟩
    · rw [eq]; exact ht i u v H3 hu hv ((r.trans r2).trans s) K k
    · rw [eq]; exact he i u v H3 hu hv hf ((r.trans r2).trans s)
/-- [e for i, x in enumerate(t) if ..], t a tuple -/
theorem ev_lcE (j l : Nat) {own : List (Str × Nat)} {ifs : List Expr} {tt : TT} {y z : Str} {py pz pt : Pos} {kt : Nat} {a : Expr} {xs : List V} {β : Type} (f : Nat → Bool) (val : Nat → β) (F : β → HF) (hF : ∀ b, Mo Nl (F b)) (hn : xs.length ≤ 1000000) (hm : X.mg "enumerate" = none)
    (ha : EV Same X a σ H (tupAt xs))
    (ht : ∀ (i : Nat) v H2, xs[i]? = some v → Same H H2 → ∀ K : Bool → Hp → Prop, (∀ H3, Same H2 H3 → K (f i) H3) → tt (((wipe σ (own.map (·.2))).set j (some (.int (i : Int)))).set l (some v)) H2 K)
    (he : ∀ (i : Nat) v H2, xs[i]? = some v → f i = true → Same H H2 → EVB X scope elt (((wipe σ (own.map (·.2))).set j (some (.int (i : Int)))).set l (some v)) H2 (F (val i)))
    (hN : X.N.Nodup) (htt : ∀ (s : Shared) (H0 : Hp) (C : Addr) (cl : List (Str × Addr)) (fp : List Addr), PTs (X.blk s H0 scope (compEnvC scope cl C X.env) fp) ifs tt) (ok : BlkOk X.N X.env.scope scope own) (hj : j ∈ own.map (·.2)) (hl2 : l ∈ own.map (·.2))
    (hg : ∀ (s : Shared) (H0 : Hp) (C : Addr) (cl : List (Str × Addr)) (fp : List Addr), PG (X.blk s H0 scope (compEnvC scope cl C X.env) fp) (.Tuple [.Name y py, .Name z pz] kt pt) (gTup X.K 2 (gCons (gName j) (gCons (gName l) gNil)))) (hc : X.calm = true := by rfl) (hgr : Gl X "enumerate" := by rfl)
    (hst : starEach [a] X.env = [(false, eval a X.env)] := by rfl) (hfs : ∀ x, foldedSetIterable (.Call (.Name "enumerate" p) [a] [] pos') X.env x = pure x := by intro _; rfl) :
    EV Same X (.ListComp elt [⟨.Tuple [.Name y py, .Name z pz] kt pt, .Call (.Name "enumerate" p) [a] [] pos', ifs, 0⟩] scope pos) σ H (lstOf F (kept f val xs.length)) :=
  EV.by (pe_lc hc hN (pi_enumT hgr hm (pa_cons pe_re pa_nil hst) hst) ok hg htt pe_reb hfs) fun H1 r Q q => ha H1 r _ fun v H2 r2 ⟨p, e, hp⟩ => by
    subst e
    refine ⟨p, xs, rfl, SqT.of hp, ?_⟩
    refine lcW walk_enumT f val F hF hn (fun H3 s => SqT.of (s _ _ hp)) (fun i σ2 _ => ∃ v, xs[i]? = some v ∧ σ2 = ((wipe σ (own.map (·.2))).set j (some (.int (i : Int)))).set l (some v)) (fun i v H3 H4 hi s y => ?_) (fun i σ2 H3 hi s ⟨v, hv, eq⟩ K k => ?_) (fun i σ2 H3 H4 _ z => z) (fun i σ2 H3 hi hf s ⟨v, hv, eq⟩ => ?_) (fun D H3 s z => q _ _ (r2.trans s) z)
    · obtain ⟨T, x, z, rfl, hT, rfl, h4, h5⟩ := y
      cases h4
      exact ⟨smn hT, fun K k => g_pair upd_same (k _ (by rw [wipe_set hl2, wipe_set hj, wipe_wipe]) ⟨z, h5, rfl⟩)⟩
    · rw [eq]; exact ht i v H3 hv ((r.trans r2).trans s) K k
    · rw [eq]; exact he i v H3 hv hf ((r.trans r2).trans s)
theorem tt_yes {f : Nat → Bool} {i : Nat} (h : f i = true) {σ : SS} {H : Hp} {K : Bool → Hp → Prop} (k : ∀ H3, Same H H3 → K (f i) H3) : tYes σ H K := by
  have := k H (Same.refl _)
  rw [h] at this
  exact this
theorem kept_all {β : Type} (val : Nat → β) (n : Nat) : kept (fun _ => true) val n = (List.range n).map val := by
  unfold kept
  rw [List.filter_eq_self.mpr (fun _ _ => rfl)]
/-- the map of a list of meanings, place by place -/
theorem map_range {α β : Type} (as : List α) (d : α) (g : α → β) : (List.range as.length).map (fun i => g (as.getD i d)) = as.map g := by
  refine List.ext_getElem? fun i => ?_
  rw [List.getElem?_map, List.getElem?_map]
  by_cases h : i < as.length
  · rw [List.getElem?_range h, List.getElem?_eq_getElem h]
    show some _ = some _
    have e : as.getD i d = as[i] := by
      rw [List.getD_eq_getElem?_getD, List.getElem?_eq_getElem h]
      rfl
    show some (g (as.getD i d)) = some (g as[i])
    rw [e]
  · rw [List.getElem?_eq_none (by simpa using h), List.getElem?_eq_none (by omega)]
    rfl

theorem kept_filter {α β : Type} (as : List α) (d : α) (f : α → Bool) (g : α → β) : kept (fun i => f (as.getD i d)) (fun i => g (as.getD i d)) as.length = (as.filter f).map g := by
  have e : as = (List.range as.length).map (fun i => as.getD i d) := by
    have := map_range as d id
    simpa using this.symm
  unfold kept
  conv => rhs; rw [e]
  rw [List.filter_map, List.map_map]
  rfl
theorem getD_some {α : Type} {as : List α} {i : Nat} {a d : α} (h : as[i]? = some a) : as.getD i d = a := by
  rw [List.getD_eq_getElem?_getD, h]
  rfl
/-! the same, by meanings -/
theorem lt_T (j : Nat) {own : List (Str × Nat)} {tt : TT} {α β : Type} [Inhabited α] {F : α → HF} {G : β → HF} {as : List α} (f : α → Bool) (g : α → β) (hG : ∀ b, Mo Nl (G b)) (hF : ∀ a, Mo Same (F a)) (hn : as.length ≤ 1000000)
    (ha : EV Same X iter σ H (tupOf F as))
    (ht : ∀ a v H2, a ∈ as → Same H H2 → F a v H2 → ∀ K : Bool → Hp → Prop, (∀ H3, Same H2 H3 → K (f a) H3) → tt ((wipe σ (own.map (·.2))).set j (some v)) H2 K)
    (he : ∀ a v H2, a ∈ as → f a = true → Same H H2 → F a v H2 → EVB X scope elt ((wipe σ (own.map (·.2))).set j (some v)) H2 (G (g a)))
    (hj : j ∈ own.map (·.2)) :
    EVt (tLc (iTup X.K (RE X iter)) (gName j) tt (REB X scope elt) (own.map (·.2))) σ H (lstOf G ((as.filter f).map g)) :=
  fun H1 r Q q => ha H1 r _ fun v H2 r2 ⟨p, xs, e, hp, q2⟩ => ⟨p, e, ⟨xs, SqT.of hp⟩, by
    have hx : xs.length = as.length := q2.1
    have hn2 : xs.length ≤ 1000000 := by rw [hx]; exact hn
    refine lcW walk_tup (fun i => f (as.getD i default)) (fun i => g (as.getD i default)) G hG hn2 (fun H3 s => SqT.of (s _ _ hp)) (fun i σ2 H3 => ∃ a v, as[i]? = some a ∧ F a v H3 ∧ σ2 = (wipe σ (own.map (·.2))).set j (some v)) (fun i v H3 H4 hi s y => ?_) (fun i σ2 H3 hi s ⟨a, v, h1, h2, eq⟩ K k => ?_) (fun i σ2 H3 H4 s ⟨a, v, h1, h2, eq⟩ => ⟨a, v, h1, (hF a).mo s h2, eq⟩) (fun i σ2 H3 hi hf s ⟨a, v, h1, h2, eq⟩ => ?_) (fun D H3 s z => ?_)
    · obtain ⟨rfl, hv⟩ := y
      obtain ⟨a, h1, h2⟩ := q2.get' hv
      exact ⟨Same.refl _, fun K k => k _ (by rw [wipe_set hj, wipe_wipe]) ⟨a, v, h1, (hF a).mo s h2, rfl⟩⟩
    · rw [eq]
      refine ht a v H3 (List.mem_of_getElem? h1) ((r.trans r2).trans s) h2 K fun H4 s4 => ?_
      have := k H4 s4
      rwa [getD_some h1] at this
    · rw [eq]
      rw [getD_some h1] at hf ⊢
      exact he a v H3 (List.mem_of_getElem? h1) hf ((r.trans r2).trans s) h2
    · rw [hx, kept_filter] at z
      exact q _ _ (r2.trans s) z⟩
theorem lc_T (j : Nat) {own : List (Str × Nat)} {ifs : List Expr} {tt : TT} {y : Str} {py : Pos} {α β : Type} [Inhabited α] {F : α → HF} {G : β → HF} {as : List α} (f : α → Bool) (g : α → β) (hG : ∀ b, Mo Nl (G b)) (hF : ∀ a, Mo Same (F a)) (hn : as.length ≤ 1000000)
    (ha : EV Same X iter σ H (tupOf F as))
    (ht : ∀ a v H2, a ∈ as → Same H H2 → F a v H2 → ∀ K : Bool → Hp → Prop, (∀ H3, Same H2 H3 → K (f a) H3) → tt ((wipe σ (own.map (·.2))).set j (some v)) H2 K)
    (he : ∀ a v H2, a ∈ as → f a = true → Same H H2 → F a v H2 → EVB X scope elt ((wipe σ (own.map (·.2))).set j (some v)) H2 (G (g a)))
    (hN : X.N.Nodup) (htt : ∀ (s : Shared) (H0 : Hp) (C : Addr) (cl : List (Str × Addr)) (fp : List Addr), PTs (X.blk s H0 scope (compEnvC scope cl C X.env) fp) ifs tt) (ok : BlkOk X.N X.env.scope scope own) (hj : j ∈ own.map (·.2))
    (hg : ∀ (s : Shared) (H0 : Hp) (C : Addr) (cl : List (Str × Addr)) (fp : List Addr), PG (X.blk s H0 scope (compEnvC scope cl C X.env) fp) (.Name y py) (gName j)) (hc : X.calm = true := by rfl) (hfs : ∀ x, foldedSetIterable iter X.env x = pure x := by intro _; rfl) :
    EV Same X (.ListComp elt [⟨.Name y py, iter, ifs, 0⟩] scope pos) σ H (lstOf G ((as.filter f).map g)) :=
  EV.by (pe_lc hc hN (pi_tup pe_re) ok hg htt pe_reb hfs) (lt_T j f g hG hF hn ha ht he hj)
theorem b_lcT (i0 : Nat) {yy : Str} {pyy spos : Pos} {rest : List Stmt} (j : Nat) {own : List (Str × Nat)} {ifs : List Expr} {tt : TT} {y : Str} {py : Pos} {α β : Type} [Inhabited α] {F : α → HF} {G : β → HF} {as : List α} (f : α → Bool) (g : α → β) (hG : ∀ b, Mo Nl (G b)) (hF : ∀ a, Mo Same (F a)) (hn : as.length ≤ 1000000)
    (ha : EV Same X iter σ H (tupOf F as))
    (ht : ∀ a v H2, a ∈ as → Same H H2 → F a v H2 → ∀ K : Bool → Hp → Prop, (∀ H3, Same H2 H3 → K (f a) H3) → tt ((wipe σ (own.map (·.2))).set j (some v)) H2 K)
    (he : ∀ a v H2, a ∈ as → f a = true → Same H H2 → F a v H2 → EVB X scope elt ((wipe σ (own.map (·.2))).set j (some v)) H2 (G (g a)))
    (hN : X.N.Nodup) (htt : ∀ (s : Shared) (H0 : Hp) (C : Addr) (cl : List (Str × Addr)) (fp : List Addr), PTs (X.blk s H0 scope (compEnvC scope cl C X.env) fp) ifs tt) (ok : BlkOk X.N X.env.scope scope own) (hj : j ∈ own.map (·.2))
    (hg : ∀ (s : Shared) (H0 : Hp) (C : Addr) (cl : List (Str × Addr)) (fp : List Addr), PG (X.blk s H0 scope (compEnvC scope cl C X.env) fp) (.Name y py) (gName j)) (k : ∀ v H1, Same H H1 → lstOf G ((as.filter f).map g) v H1 → RSs X rest D (σ.set i0 (some v)) H1)
    (hsw : swapsWith (.ListComp elt [⟨.Name y py, iter, ifs, 0⟩] scope pos) (some (.Name yy pyy)) spos.line X.env = pure true) (hi0 : X.N[i0]? = some yy := by rfl) (hyl : X.env.scope.names.lookup yy = some .local := by rfl) (hc : X.calm = true := by rfl) (hfs : ∀ x, foldedSetIterable iter X.env x = pure x := by intro _; rfl) :
    RSs X (.Assign [.Name yy pyy] (.ListComp elt [⟨.Name y py, iter, ifs, 0⟩] scope pos) spos :: rest) D σ H :=
  RSs.cons (RS.of (ps_setLc hc hN hi0 hyl hsw (pi_tup pe_re) ok hg htt pe_reb hfs) (lt_T j f g hG hF hn ha ht he hj H (Same.refl _) _ fun v H1 s p => k v H1 s p))
theorem lc_L (j : Nat) {own : List (Str × Nat)} {ifs : List Expr} {tt : TT} {y : Str} {py : Pos} {α β : Type} [Inhabited α] {F : α → HF} {G : β → HF} {as : List α} (f : α → Bool) (g : α → β) (hG : ∀ b, Mo Nl (G b)) (hF : ∀ a, Mo Same (F a)) (hn : as.length ≤ 1000000)
    (ha : EV Same X iter σ H (lstOf F as))
    (ht : ∀ a v H2, a ∈ as → Same H H2 → F a v H2 → ∀ K : Bool → Hp → Prop, (∀ H3, Same H2 H3 → K (f a) H3) → tt ((wipe σ (own.map (·.2))).set j (some v)) H2 K)
    (he : ∀ a v H2, a ∈ as → f a = true → Same H H2 → F a v H2 → EVB X scope elt ((wipe σ (own.map (·.2))).set j (some v)) H2 (G (g a)))
    (hN : X.N.Nodup) (htt : ∀ (s : Shared) (H0 : Hp) (C : Addr) (cl : List (Str × Addr)) (fp : List Addr), PTs (X.blk s H0 scope (compEnvC scope cl C X.env) fp) ifs tt) (ok : BlkOk X.N X.env.scope scope own) (hj : j ∈ own.map (·.2))
    (hg : ∀ (s : Shared) (H0 : Hp) (C : Addr) (cl : List (Str × Addr)) (fp : List Addr), PG (X.blk s H0 scope (compEnvC scope cl C X.env) fp) (.Name y py) (gName j)) (hc : X.calm = true := by rfl) (hfs : ∀ x, foldedSetIterable iter X.env x = pure x := by intro _; rfl) :
    EV Same X (.ListComp elt [⟨.Name y py, iter, ifs, 0⟩] scope pos) σ H (lstOf G ((as.filter f).map g)) :=
  EV.by (pe_lc hc hN (pi_list pe_re) ok hg htt pe_reb hfs) fun H1 r Q q => ha H1 r _ fun v H2 r2 ⟨p, xs, e, hp, q2⟩ => ⟨p, e, ⟨xs, SqL.of hp⟩, by
    have hx : xs.length = as.length := q2.1
    have hn2 : xs.length ≤ 1000000 := by rw [hx]; exact hn
    refine lcW walk_list (fun i => f (as.getD i default)) (fun i => g (as.getD i default)) G hG hn2 (fun H3 s => SqL.of (s _ _ hp)) (fun i σ2 H3 => ∃ a v, as[i]? = some a ∧ F a v H3 ∧ σ2 = (wipe σ (own.map (·.2))).set j (some v)) (fun i v H3 H4 hi s y => ?_) (fun i σ2 H3 hi s ⟨a, v, h1, h2, eq⟩ K k => ?_) (fun i σ2 H3 H4 s ⟨a, v, h1, h2, eq⟩ => ⟨a, v, h1, (hF a).mo s h2, eq⟩) (fun i σ2 H3 hi hf s ⟨a, v, h1, h2, eq⟩ => ?_) (fun D H3 s z => ?_)
    · obtain ⟨rfl, hv⟩ := y
      obtain ⟨a, h1, h2⟩ := q2.get' hv
      exact ⟨Same.refl _, fun K k => k _ (by rw [wipe_set hj, wipe_wipe]) ⟨a, v, h1, (hF a).mo s h2, rfl⟩⟩
    · rw [eq]
      refine ht a v H3 (List.mem_of_getElem? h1) ((r.trans r2).trans s) h2 K fun H4 s4 => ?_
      have := k H4 s4
      rwa [getD_some h1] at this
    · rw [eq]
      rw [getD_some h1] at hf ⊢
      exact he a v H3 (List.mem_of_getElem? h1) hf ((r.trans r2).trans s) h2
    · rw [hx, kept_filter] at z
      exact q _ _ (r2.trans s) z⟩
/-- zip of two tuples of one length -/
theorem lc_Z (j l : Nat) {own : List (Str × Nat)} {y z : Str} {py pz pt : Pos} {kt : Nat} {a b : Expr} {α1 α2 β : Type} [Inhabited α1] [Inhabited α2] {F1 : α1 → HF} {F2 : α2 → HF} {G : β → HF} {as : List α1} {bs : List α2} (g : α1 → α2 → β) (hG : ∀ b, Mo Nl (G b)) (hF1 : ∀ a, Mo Same (F1 a)) (hF2 : ∀ a, Mo Same (F2 a)) (hn : as.length ≤ 1000000) (hl : as.length = bs.length) (hm : X.mg "zip" = none)
    (ha : EA Same X [a, b] σ H [tupOf F1 as, tupOf F2 bs])
    (he : ∀ (i : Nat) a b u v H2, as[i]? = some a → bs[i]? = some b → Same H H2 → F1 a u H2 → F2 b v H2 → EVB X scope elt (((wipe σ (own.map (·.2))).set j (some u)).set l (some v)) H2 (G (g a b)))
    (hN : X.N.Nodup) (ok : BlkOk X.N X.env.scope scope own) (hj : j ∈ own.map (·.2)) (hl2 : l ∈ own.map (·.2))
    (hg : ∀ (s : Shared) (H0 : Hp) (C : Addr) (cl : List (Str × Addr)) (fp : List Addr), PG (X.blk s H0 scope (compEnvC scope cl C X.env) fp) (.Tuple [.Name y py, .Name z pz] kt pt) (gTup X.K 2 (gCons (gName j) (gCons (gName l) gNil)))) (hc : X.calm = true := by rfl) (hgr : Gl X "zip" := by rfl)
    (hst : starEach [a, b] X.env = (false, eval a X.env) :: starEach [b] X.env := by rfl) (hpl : (backTo pos' (starEach [b] X.env)).any (·.1) = false := by rfl) (hfs : ∀ x, foldedSetIterable (.Call (.Name "zip" p) [a, b] [] pos') X.env x = pure x := by intro _; rfl) :
    EV Same X (.ListComp elt [⟨.Tuple [.Name y py, .Name z pz] kt pt, .Call (.Name "zip" p) [a, b] [] pos', [], 0⟩] scope pos) σ H (lstOf G ((List.range as.length).map fun i => g (as.getD i default) (bs.getD i default))) :=
  EV.by (pe_lc hc hN (RZ.pi_zipA hgr hm pa_ra hst hpl) ok hg (fun _ _ _ _ _ => pts_nil) pe_reb hfs) fun H1 r Q q => ha H1 r _ fun vs H2 r2 fit => by
    obtain ⟨u, v, rfl, ⟨p, xs, rfl, hp, q1⟩, ⟨p2, ys, rfl, hp2, q2⟩⟩ := fit2 fit
    have hx : xs.length = as.length := q1.1
    have hy : ys.length = bs.length := q2.1
    have hn2 : xs.length ≤ 1000000 := by rw [hx]; exact hn
    refine ⟨p, p2, xs, ys, rfl, .inr ⟨SqT.of hp, SqT.of hp2, ?_⟩⟩
    have wk : Walk (RZ.ItzT X.K p p2) xs.length (fun H3 => SqT X.K H3 p xs ∧ SqT X.K H3 p2 ys) (YPair (fun i => xs[i]?) (fun i => ys[i]?)) := by
      refine ⟨fun i _ hi q => ?_, fun _ q => ⟨xs, ys, q.1, q.2, by omega⟩, fun i H v H' _ q yy => ?_⟩
      · have h2 : i < ys.length := by omega
        exact ⟨xs, ys, xs[i], ys[i], q.1, q.2, by simp [hi], by simp [h2]⟩
      · obtain ⟨T, x, z, e1, e2, e3, g1, g2⟩ := yy
        exact ⟨T, x, z, e1, e2, e3, g1 xs q.1, g2 ys q.2⟩
    refine lcW wk (fun _ => true) (fun i => g (as.getD i default) (bs.getD i default)) G hG hn2 (fun H3 s => ⟨SqT.of (s _ _ hp), SqT.of (s _ _ hp2)⟩) (fun i σ2 H3 => ∃ a b u v, as[i]? = some a ∧ bs[i]? = some b ∧ F1 a u H3 ∧ F2 b v H3 ∧ σ2 = ((wipe σ (own.map (·.2))).set j (some u)).set l (some v)) (fun i v H3 H4 hi s y => ?_) (fun i σ2 H3 hi s _ K k => tt_yes (f := fun _ => true) (i := i) rfl k) (fun i σ2 H3 H4 s ⟨a, b, u, v, h1, h2, h3, h4, eq⟩ => ⟨a, b, u, v, h1, h2, (hF1 a).mo s h3, (hF2 b).mo s h4, eq⟩) (fun i σ2 H3 hi hf s ⟨a, b, u, v, h1, h2, h3, h4, eq⟩ => ?_) (fun D H3 s z => ?_)
    · obtain ⟨T, x, z, rfl, hT, rfl, h4, h5⟩ := y
      obtain ⟨a, e1, e2⟩ := q1.get' h4
      obtain ⟨b, e3, e4⟩ := q2.get' h5
      refine ⟨smn hT, fun K k => g_pair upd_same (k _ (by rw [wipe_set hl2, wipe_set hj, wipe_wipe]) ⟨a, b, x, z, e1, e3, (hF1 a).mo (s.trans (smn hT)) e2, (hF2 b).mo (s.trans (smn hT)) e4, rfl⟩)⟩
    · rw [eq, getD_some h1, getD_some h2]
      exact he i a b u v H3 h1 h2 ((r.trans r2).trans s) h3 h4
    · rw [kept_all, hx] at z
      exact q _ _ (r2.trans s) z
theorem tt_one {c : Expr} {b : Bool} {H : Hp} (h : ETB X scope c σ H (· = b)) {K : Bool → Hp → Prop} (k : ∀ H3, Same H H3 → K b H3) : RTB X scope c σ H K := fun s H0 C cl fp => h s H0 C cl fp H (Same.refl _) K fun v H2 s2 e => by
  rw [e]
  exact k H2 s2
end
end Ly
set_option Elab.async false
set_option linter.all false
set_option maxRecDepth 100000
set_option maxHeartbeats 4000000
namespace Ly
open PySem PySem.Spec PyProof.Rows L2
def top (i : Nat) : Stmt := PySem.Challenge.pw_colormatch_k33_whole_other_matches.main.body.getD i (.Pass ⟨0, 0, 0, 0⟩)
abbrev scommon_part : Stmt := top 8
abbrev sQuotientinit : Stmt := inClass (top 9) 0
abbrev sQuotienteq : Stmt := inClass (top 9) 1
abbrev sQuotientlt : Stmt := inClass (top 9) 2
abbrev sQuotientle : Stmt := inClass (top 9) 3
abbrev sQuotientadd : Stmt := inClass (top 9) 4
abbrev sQuotientsub : Stmt := inClass (top 9) 5
abbrev sQuotientmul : Stmt := inClass (top 9) 6
abbrev sQuotientover : Stmt := inClass (top 9) 9
abbrev swhole : Stmt := top 10
abbrev szero : Stmt := top 11
abbrev sone : Stmt := top 12
abbrev sis_quotient : Stmt := top 13
abbrev sblack : Stmt := top 15
abbrev sdet : Stmt := top 16
abbrev sscaled : Stmt := top 17
abbrev sadded : Stmt := top 18
abbrev ssum_of : Stmt := top 19
abbrev sis_number : Stmt := top 21
abbrev sis_band : Stmt := top 22
abbrev sfirst_irregular : Stmt := top 23
abbrev sObserverinit : Stmt := inClass (top 24) 2
abbrev sObserverlen : Stmt := inClass (top 24) 3
abbrev sViewinit : Stmt := inClass (top 25) 0
abbrev sViewlen : Stmt := inClass (top 25) 1
abbrev sis_reflectance : Stmt := top 26
abbrev scheck_reflectance : Stmt := top 27
abbrev scolor_of : Stmt := top 28
abbrev sis_match : Stmt := top 29
abbrev sfours_of : Stmt := top 31
abbrev sother_det : Stmt := top 32
abbrev sroom_of : Stmt := top 33
abbrev srooms_of : Stmt := top 34
abbrev schanged : Stmt := top 35
abbrev sother_match : Stmt := top 36
abbrev sL_cell : Stmt := top 38
abbrev sL_draws : Stmt := top 39
abbrev sL_stream : Stmt := top 40
abbrev sL_next : Stmt := top 41
abbrev sL_part : Stmt := top 42
abbrev sL_least : Stmt := top 43
abbrev sL_bands : Stmt := top 46
abbrev sL_share : Stmt := top 47
abbrev sL_sum : Stmt := top 48
abbrev sL_less : Stmt := top 49
abbrev sL_times : Stmt := top 50
abbrev sL_quotients : Stmt := top 54
abbrev sL_shares : Stmt := top 55
abbrev sL_lamp : Stmt := top 57
abbrev sL_generators : Stmt := top 58
abbrev sL_lit : Stmt := top 59
abbrev sL_is_pattern : Stmt := top 60
abbrev sL_pattern : Stmt := top 61
abbrev sL_seen : Stmt := top 62
abbrev sL_right : Stmt := top 63
abbrev slaw : Stmt := top 64
def fn : List He.FnD := [⟨("common_part", none), "common_part", "common_part", defArgs scommon_part, defBody scommon_part, defScope scommon_part⟩, ⟨("Quotient", some "__init__"), "__init__", "Quotient.__init__", defArgs sQuotientinit, defBody sQuotientinit, defScope sQuotientinit⟩, ⟨("Quotient", some "__eq__"), "__eq__", "Quotient.__eq__", defArgs sQuotienteq, defBody sQuotienteq, defScope sQuotienteq⟩, ⟨("Quotient", some "__lt__"), "__lt__", "Quotient.__lt__", defArgs sQuotientlt, defBody sQuotientlt, defScope sQuotientlt⟩, ⟨("Quotient", some "__le__"), "__le__", "Quotient.__le__", defArgs sQuotientle, defBody sQuotientle, defScope sQuotientle⟩, ⟨("Quotient", some "__add__"), "__add__", "Quotient.__add__", defArgs sQuotientadd, defBody sQuotientadd, defScope sQuotientadd⟩, ⟨("Quotient", some "__sub__"), "__sub__", "Quotient.__sub__", defArgs sQuotientsub, defBody sQuotientsub, defScope sQuotientsub⟩, ⟨("Quotient", some "__mul__"), "__mul__", "Quotient.__mul__", defArgs sQuotientmul, defBody sQuotientmul, defScope sQuotientmul⟩, ⟨("Quotient", some "over"), "over", "Quotient.over", defArgs sQuotientover, defBody sQuotientover, defScope sQuotientover⟩, ⟨("whole", none), "whole", "whole", defArgs swhole, defBody swhole, defScope swhole⟩, ⟨("zero", none), "zero", "zero", defArgs szero, defBody szero, defScope szero⟩, ⟨("one", none), "one", "one", defArgs sone, defBody sone, defScope sone⟩, ⟨("is_quotient", none), "is_quotient", "is_quotient", defArgs sis_quotient, defBody sis_quotient, defScope sis_quotient⟩, ⟨("black", none), "black", "black", defArgs sblack, defBody sblack, defScope sblack⟩, ⟨("det", none), "det", "det", defArgs sdet, defBody sdet, defScope sdet⟩, ⟨("scaled", none), "scaled", "scaled", defArgs sscaled, defBody sscaled, defScope sscaled⟩, ⟨("added", none), "added", "added", defArgs sadded, defBody sadded, defScope sadded⟩, ⟨("sum_of", none), "sum_of", "sum_of", defArgs ssum_of, defBody ssum_of, defScope ssum_of⟩, ⟨("is_number", none), "is_number", "is_number", defArgs sis_number, defBody sis_number, defScope sis_number⟩, ⟨("is_band", none), "is_band", "is_band", defArgs sis_band, defBody sis_band, defScope sis_band⟩, ⟨("first_irregular", none), "first_irregular", "first_irregular", defArgs sfirst_irregular, defBody sfirst_irregular, defScope sfirst_irregular⟩, ⟨("Observer", some "__init__"), "__init__", "Observer.__init__", defArgs sObserverinit, defBody sObserverinit, defScope sObserverinit⟩, ⟨("Observer", some "__len__"), "__len__", "Observer.__len__", defArgs sObserverlen, defBody sObserverlen, defScope sObserverlen⟩, ⟨("View", some "__init__"), "__init__", "View.__init__", defArgs sViewinit, defBody sViewinit, defScope sViewinit⟩, ⟨("View", some "__len__"), "__len__", "View.__len__", defArgs sViewlen, defBody sViewlen, defScope sViewlen⟩, ⟨("is_reflectance", none), "is_reflectance", "is_reflectance", defArgs sis_reflectance, defBody sis_reflectance, defScope sis_reflectance⟩, ⟨("check_reflectance", none), "check_reflectance", "check_reflectance", defArgs scheck_reflectance, defBody scheck_reflectance, defScope scheck_reflectance⟩, ⟨("color_of", none), "color_of", "color_of", defArgs scolor_of, defBody scolor_of, defScope scolor_of⟩, ⟨("is_match", none), "is_match", "is_match", defArgs sis_match, defBody sis_match, defScope sis_match⟩, ⟨("fours_of", none), "fours_of", "fours_of", defArgs sfours_of, defBody sfours_of, defScope sfours_of⟩, ⟨("other_det", none), "other_det", "other_det", defArgs sother_det, defBody sother_det, defScope sother_det⟩, ⟨("room_of", none), "room_of", "room_of", defArgs sroom_of, defBody sroom_of, defScope sroom_of⟩, ⟨("rooms_of", none), "rooms_of", "rooms_of", defArgs srooms_of, defBody srooms_of, defScope srooms_of⟩, ⟨("changed", none), "changed", "changed", defArgs schanged, defBody schanged, defScope schanged⟩, ⟨("other_match", none), "other_match", "other_match", defArgs sother_match, defBody sother_match, defScope sother_match⟩, ⟨("_law_cell", none), "_law_cell", "_law_cell", defArgs sL_cell, defBody sL_cell, defScope sL_cell⟩, ⟨("_law_draws", none), "_law_draws", "_law_draws", defArgs sL_draws, defBody sL_draws, defScope sL_draws⟩, ⟨("_law_stream", none), "_law_stream", "_law_stream", defArgs sL_stream, defBody sL_stream, defScope sL_stream⟩, ⟨("_law_next", none), "_law_next", "_law_next", defArgs sL_next, defBody sL_next, defScope sL_next⟩, ⟨("_law_part", none), "_law_part", "_law_part", defArgs sL_part, defBody sL_part, defScope sL_part⟩, ⟨("_law_least", none), "_law_least", "_law_least", defArgs sL_least, defBody sL_least, defScope sL_least⟩, ⟨("_law_bands", none), "_law_bands", "_law_bands", defArgs sL_bands, defBody sL_bands, defScope sL_bands⟩, ⟨("_law_share", none), "_law_share", "_law_share", defArgs sL_share, defBody sL_share, defScope sL_share⟩, ⟨("_law_sum", none), "_law_sum", "_law_sum", defArgs sL_sum, defBody sL_sum, defScope sL_sum⟩, ⟨("_law_less", none), "_law_less", "_law_less", defArgs sL_less, defBody sL_less, defScope sL_less⟩, ⟨("_law_times", none), "_law_times", "_law_times", defArgs sL_times, defBody sL_times, defScope sL_times⟩, ⟨("_law_quotients", none), "_law_quotients", "_law_quotients", defArgs sL_quotients, defBody sL_quotients, defScope sL_quotients⟩, ⟨("_law_shares", none), "_law_shares", "_law_shares", defArgs sL_shares, defBody sL_shares, defScope sL_shares⟩, ⟨("_law_lamp", none), "_law_lamp", "_law_lamp", defArgs sL_lamp, defBody sL_lamp, defScope sL_lamp⟩, ⟨("_law_generators", none), "_law_generators", "_law_generators", defArgs sL_generators, defBody sL_generators, defScope sL_generators⟩, ⟨("_law_lit", none), "_law_lit", "_law_lit", defArgs sL_lit, defBody sL_lit, defScope sL_lit⟩, ⟨("_law_is_pattern", none), "_law_is_pattern", "_law_is_pattern", defArgs sL_is_pattern, defBody sL_is_pattern, defScope sL_is_pattern⟩, ⟨("_law_pattern", none), "_law_pattern", "_law_pattern", defArgs sL_pattern, defBody sL_pattern, defScope sL_pattern⟩, ⟨("_law_seen", none), "_law_seen", "_law_seen", defArgs sL_seen, defBody sL_seen, defScope sL_seen⟩, ⟨("_law_right", none), "_law_right", "_law_right", defArgs sL_right, defBody sL_right, defScope sL_right⟩, ⟨("law", none), "law", "law", defArgs slaw, defBody slaw, defScope slaw⟩]
def fa : List He.Fa := [.glo "common_part", .glo "Quotient", .glo "whole", .glo "zero", .glo "one", .glo "is_quotient", .glo "black", .glo "det", .glo "scaled", .glo "added", .glo "sum_of", .glo "is_number", .glo "is_band", .glo "first_irregular", .glo "Observer", .glo "View", .glo "is_reflectance", .glo "check_reflectance", .glo "color_of", .glo "is_match", .glo "fours_of", .glo "other_det", .glo "room_of", .glo "rooms_of", .glo "changed", .glo "other_match", .glo "_law_cell", .glo "_law_draws", .glo "_law_stream", .glo "_law_next", .glo "_law_part", .glo "_law_least", .glo "_law_bands", .glo "_law_share", .glo "_law_sum", .glo "_law_less", .glo "_law_times", .glo "_law_quotients", .glo "_law_shares", .glo "_law_lamp", .glo "_law_generators", .glo "_law_lit", .glo "_law_is_pattern", .glo "_law_pattern", .glo "_law_seen", .glo "_law_right", .glo "law", .free "abs", .free "isinstance", .free "int", .free "bool", .free "tuple", .free "len", .free "all", .free "zip", .free "range", .free "enumerate", .free "list", .cls "Quotient", .cls "Observer", .cls "View", .noat "Quotient" "top", .noat "Quotient" "bottom", .noat "Observer" "bands", .noat "Observer" "vectors", .noat "View" "observer", .noat "View" "lamp", .noat "View" "generators", .meth "Quotient" "__init__", .meth "Quotient" "__eq__", .meth "Quotient" "__lt__", .meth "Quotient" "__le__", .meth "Quotient" "__add__", .meth "Quotient" "__sub__", .meth "Quotient" "__mul__", .meth "Quotient" "over", .meth "Observer" "__init__", .meth "Observer" "__len__", .meth "View" "__init__", .meth "View" "__len__", .mkr "Quotient", .mkr "Observer", .mkr "View", .keep "common_part", .keep "whole", .keep "zero", .keep "one", .keep "is_quotient", .keep "black", .keep "det", .keep "scaled", .keep "added", .keep "sum_of", .keep "is_number", .keep "is_band", .keep "first_irregular", .keep "is_reflectance", .keep "check_reflectance", .keep "color_of", .keep "is_match", .keep "fours_of", .keep "other_det", .keep "room_of", .keep "rooms_of", .keep "changed", .keep "other_match", .keep "_law_cell", .keep "_law_draws", .keep "_law_stream", .keep "_law_next", .keep "_law_part", .keep "_law_least", .keep "_law_bands", .keep "_law_share", .keep "_law_sum", .keep "_law_less", .keep "_law_times", .keep "_law_quotients", .keep "_law_shares", .keep "_law_lamp", .keep "_law_generators", .keep "_law_lit", .keep "_law_is_pattern", .keep "_law_pattern", .keep "_law_seen", .keep "_law_right", .keep "law"]
def loose0 : List PySem.Str := ["ColorError", "BadQuotient", "BadObserver", "Irregular", "BadLamp", "BadReflectance", "common_part", "Quotient", "whole", "zero", "one", "is_quotient"]
def loose1 : List PySem.Str := ["black", "det", "scaled", "added", "sum_of", "is_number", "is_band", "first_irregular", "Observer", "View", "is_reflectance", "check_reflectance"]
def loose2 : List PySem.Str := ["color_of", "is_match", "fours_of", "other_det", "room_of", "rooms_of", "changed", "other_match", "_law_cell", "_law_draws", "_law_stream", "_law_next"]
def loose3 : List PySem.Str := ["_law_part", "_law_least", "_law_is", "_law_is_integer", "_law_bands", "_law_share", "_law_sum", "_law_less", "_law_times", "_law_by", "_law_is_pair", "_law_are"]
def loose4 : List PySem.Str := ["_law_quotients", "_law_shares", "_law_beside", "_law_lamp", "_law_generators", "_law_lit", "_law_is_pattern", "_law_pattern", "_law_seen", "_law_right"]
def loose : List PySem.Str := loose0 ++ loose1 ++ loose2 ++ loose3 ++ loose4

abbrev Rw : PySem.W.OpenRow := PySem.W.OpenLaw.row PySem.Challenge.rw_colormatch_k33_whole_other_matches
def isoB (K : PySem.W.Frag) (C : Addr) : Bool := He.eqO (PySem.W.findIn K (.ref C) "__class__") (some (some (.builtin "object.__class__"))) &&
  (He.eqO (PySem.W.specialIn K (.builtin "object.__class__") "__get__") (some (some (.builtin "getset_descriptor.__get__"))) &&
  (decide (PySem.W.takesIn K (.builtin "object.__class__") = some true) && decide (PySem.W.mroIn K C (.type "object") = some true)))
def valB (K : PySem.W.Frag) (C : Addr) (f : Str) (i : Int) : Bool := match PySem.W.findCls K (.ref C) (.type "type") f with
  | some (.val (.int j _)) => decide (j = i)
  | _ => false
def xok (K : PySem.W.Frag) : Bool := PySem.W.selfFirst K (He.ga K "Quotient") && (isoB K (He.ga K "Quotient") &&
  (decide (PySem.W.kitOne K (.ref (He.ga K "Quotient")) (.ref (He.ga K "Quotient")) = some true) &&
  (decide (PySem.W.kitOne K (.type "int") (.type "int") = some true) && (decide (PySem.W.kitOne K (.type "int") (.type "bool") = some false) &&
  (decide (PySem.W.kitOne K (.type "tuple") (.type "tuple") = some true) &&
  (PySem.W.readsIn K (He.ga K "Observer") (.type "type") && (He.eqO (PySem.W.specialIn K (.ref (He.ga K "Observer")) "__getattribute__") (some (some (.builtin "type.__getattribute__"))) &&
  (valB K (He.ga K "Observer") "LEAST_BANDS" 4 && (valB K (He.ga K "Observer") "MOST_BANDS" 7 &&
  (decide (He.ga K "Quotient" ≠ He.ga K "Observer") && (decide (He.ga K "Quotient" ≠ He.ga K "View") && decide (He.ga K "Observer" ≠ He.ga K "View"))))))))))))
def SaysM (K : PySem.W.Frag) : Prop := (xok K, He.obsE fa fn K) = (true, He.valE fn)
def asM (n : Nat) (g : Addr → Option Obj) : List Addr := cStatics :: He.asG g n
def obsM (n : Nat) (g : Addr → Option Obj) : Bool × He.Al := (xok (He.frG g (asM n g)), He.obsE fa fn (He.frG g (asM n g)))
/-- what the end knows: the facts, and how the module's names are found -/
structure Tx (K : PySem.W.Frag) (mg : Str → Option Value) : Prop where
  says : SaysM K
  gl : ∀ x v, PySem.W.nsIn K mainGlobals x = some (some v) → mg x = some v
  fr : ∀ x, PySem.W.nsIn K mainGlobals x = some none → mg x = none
section
variable {K : PySem.W.Frag} {mg : Str → Option Value}
theorem Tx.of {h : Heap} (s : SaysM K) (X : K.In h) (G : h.Ns mainGlobals mg) : Tx K mg := ⟨s, fun _ _ e => PySem.W.mg_of X G e, fun _ e => PySem.W.mg_none_of X G e⟩
theorem Tx.x (T : Tx K mg) : xok K = true := congrArg Prod.fst T.says
theorem Tx.e (T : Tx K mg) : He.SaysE fa fn K := congrArg Prod.snd T.says
theorem Tx.fact (T : Tx K mg) (i : Nat) {f : He.Fa} (h : fa[i]? = some f := by rfl) : f.ok K = true := T.e.fact i h
theorem Tx.glob (T : Tx K mg) {x : Str} (i : Nat) (h : fa[i]? = some (.glo x) := by rfl) : mg x = some (.ref (He.ga K x)) := T.gl _ _ (He.eqO_ok (T.fact i h))
theorem Tx.free (T : Tx K mg) {x : Str} (i : Nat) (h : fa[i]? = some (.free x) := by rfl) : mg x = none := T.fr _ (He.eqO_ok (T.fact i h))
theorem Tx.def_ (T : Tx K mg) {x q : Str} {st : Stmt} (i : Nat) (k : PySem.W.keepIn K (.ref (He.ga K x)) = true) (h : fn[i]? = some ⟨(x, none), x, q, defArgs st, defBody st, defScope st⟩ := by rfl) : ∃ fd, Fun K x q st (He.ga K x) fd := by
  obtain ⟨oc, od, osl, kV, doc, pm, an, cdv, ct, l, c⟩ := T.e.def_ i h
  exact ⟨_, fun_mk (st := st) l c k⟩
theorem Tx.meth_ (T : Tx K mg) {x m q : Str} {st : Stmt} (i : Nat) (k : PySem.W.keepIn K (.ref (He.ma K (He.ga K x) m)) = true) (h : fn[i]? = some ⟨(x, some m), m, q, defArgs st, defBody st, defScope st⟩ := by rfl) : ∃ fd, Fun K m q st (He.ma K (He.ga K x) m) fd := by
  obtain ⟨oc, od, osl, kV, doc, pm, an, cdv, ct, l, c⟩ := T.e.def_ i h
  exact ⟨_, fun_mk (st := st) l c k⟩
/-- the facts beside -/
structure XF (K : PySem.W.Frag) : Prop where
  sf : PySem.W.selfFirst K (He.ga K "Quotient") = true
  ca : PySem.W.findIn K (.ref (He.ga K "Quotient")) "__class__" = some (some (.builtin "object.__class__"))
  cn : PySem.W.specialIn K (.builtin "object.__class__") "__get__" = some (some (.builtin "getset_descriptor.__get__"))
  ct : PySem.W.takesIn K (.builtin "object.__class__") = some true
  cm : PySem.W.mroIn K (He.ga K "Quotient") (.type "object") = some true
  kq : PySem.W.kitOne K (.ref (He.ga K "Quotient")) (.ref (He.ga K "Quotient")) = some true
  ki : PySem.W.kitOne K (.type "int") (.type "int") = some true
  kb : PySem.W.kitOne K (.type "int") (.type "bool") = some false
  kt : PySem.W.kitOne K (.type "tuple") (.type "tuple") = some true
  rd : ClX.CRead K (He.ga K "Observer") (.type "type")
  lb : valB K (He.ga K "Observer") "LEAST_BANDS" 4 = true
  mb : valB K (He.ga K "Observer") "MOST_BANDS" 7 = true
  qo : He.ga K "Quotient" ≠ He.ga K "Observer"
  qv : He.ga K "Quotient" ≠ He.ga K "View"
  ov : He.ga K "Observer" ≠ He.ga K "View"
theorem Tx.xf (T : Tx K mg) : XF K := by
  have h := T.x
  unfold xok isoB at h
  simp only [Bool.and_eq_true, decide_eq_true_eq] at h
  obtain ⟨h1, ⟨h2, h3, h4, h5⟩, h6, h7, h8, h9, h10, h11, h12, h13, h14, h15, h16⟩ := h
  exact ⟨h1, He.eqO_ok h2, He.eqO_ok h3, h4, h5, h6, h7, h8, h9, ⟨h10, He.eqO_ok h11⟩, h12, h13, h14, h15, h16⟩
theorem valB_ok {C : Addr} {f : Str} {i : Int} (h : valB K C f i = true) : ∃ t, ClX.CVal K C (.type "type") f (.int i) (.int i t) := by
  unfold valB at h
  split at h
  · rename_i j t e
    have ej : j = i := of_decide_eq_true h
    subst ej
    exact ⟨t, e, ⟨t, rfl⟩⟩
  · cases h

theorem Tx.g_common_part (T : Tx K mg) : mg "common_part" = some (.ref (He.ga K "common_part")) := T.glob 0
theorem Tx.g_Quotient (T : Tx K mg) : mg "Quotient" = some (.ref (He.ga K "Quotient")) := T.glob 1
theorem Tx.g_whole (T : Tx K mg) : mg "whole" = some (.ref (He.ga K "whole")) := T.glob 2
theorem Tx.g_zero (T : Tx K mg) : mg "zero" = some (.ref (He.ga K "zero")) := T.glob 3
theorem Tx.g_one (T : Tx K mg) : mg "one" = some (.ref (He.ga K "one")) := T.glob 4
theorem Tx.g_is_quotient (T : Tx K mg) : mg "is_quotient" = some (.ref (He.ga K "is_quotient")) := T.glob 5
theorem Tx.g_black (T : Tx K mg) : mg "black" = some (.ref (He.ga K "black")) := T.glob 6
theorem Tx.g_det (T : Tx K mg) : mg "det" = some (.ref (He.ga K "det")) := T.glob 7
theorem Tx.g_scaled (T : Tx K mg) : mg "scaled" = some (.ref (He.ga K "scaled")) := T.glob 8
theorem Tx.g_added (T : Tx K mg) : mg "added" = some (.ref (He.ga K "added")) := T.glob 9
theorem Tx.g_sum_of (T : Tx K mg) : mg "sum_of" = some (.ref (He.ga K "sum_of")) := T.glob 10
theorem Tx.g_is_number (T : Tx K mg) : mg "is_number" = some (.ref (He.ga K "is_number")) := T.glob 11
theorem Tx.g_is_band (T : Tx K mg) : mg "is_band" = some (.ref (He.ga K "is_band")) := T.glob 12
theorem Tx.g_first_irregular (T : Tx K mg) : mg "first_irregular" = some (.ref (He.ga K "first_irregular")) := T.glob 13
theorem Tx.g_Observer (T : Tx K mg) : mg "Observer" = some (.ref (He.ga K "Observer")) := T.glob 14
theorem Tx.g_View (T : Tx K mg) : mg "View" = some (.ref (He.ga K "View")) := T.glob 15
theorem Tx.g_is_reflectance (T : Tx K mg) : mg "is_reflectance" = some (.ref (He.ga K "is_reflectance")) := T.glob 16
theorem Tx.g_check_reflectance (T : Tx K mg) : mg "check_reflectance" = some (.ref (He.ga K "check_reflectance")) := T.glob 17
theorem Tx.g_color_of (T : Tx K mg) : mg "color_of" = some (.ref (He.ga K "color_of")) := T.glob 18
theorem Tx.g_is_match (T : Tx K mg) : mg "is_match" = some (.ref (He.ga K "is_match")) := T.glob 19
theorem Tx.g_fours_of (T : Tx K mg) : mg "fours_of" = some (.ref (He.ga K "fours_of")) := T.glob 20
theorem Tx.g_other_det (T : Tx K mg) : mg "other_det" = some (.ref (He.ga K "other_det")) := T.glob 21
theorem Tx.g_room_of (T : Tx K mg) : mg "room_of" = some (.ref (He.ga K "room_of")) := T.glob 22
theorem Tx.g_rooms_of (T : Tx K mg) : mg "rooms_of" = some (.ref (He.ga K "rooms_of")) := T.glob 23
theorem Tx.g_changed (T : Tx K mg) : mg "changed" = some (.ref (He.ga K "changed")) := T.glob 24
theorem Tx.g_other_match (T : Tx K mg) : mg "other_match" = some (.ref (He.ga K "other_match")) := T.glob 25
theorem Tx.g_L_cell (T : Tx K mg) : mg "_law_cell" = some (.ref (He.ga K "_law_cell")) := T.glob 26
theorem Tx.g_L_draws (T : Tx K mg) : mg "_law_draws" = some (.ref (He.ga K "_law_draws")) := T.glob 27
theorem Tx.g_L_stream (T : Tx K mg) : mg "_law_stream" = some (.ref (He.ga K "_law_stream")) := T.glob 28
theorem Tx.g_L_next (T : Tx K mg) : mg "_law_next" = some (.ref (He.ga K "_law_next")) := T.glob 29
theorem Tx.g_L_part (T : Tx K mg) : mg "_law_part" = some (.ref (He.ga K "_law_part")) := T.glob 30
theorem Tx.g_L_least (T : Tx K mg) : mg "_law_least" = some (.ref (He.ga K "_law_least")) := T.glob 31
theorem Tx.g_L_bands (T : Tx K mg) : mg "_law_bands" = some (.ref (He.ga K "_law_bands")) := T.glob 32
theorem Tx.g_L_share (T : Tx K mg) : mg "_law_share" = some (.ref (He.ga K "_law_share")) := T.glob 33
theorem Tx.g_L_sum (T : Tx K mg) : mg "_law_sum" = some (.ref (He.ga K "_law_sum")) := T.glob 34
theorem Tx.g_L_less (T : Tx K mg) : mg "_law_less" = some (.ref (He.ga K "_law_less")) := T.glob 35
theorem Tx.g_L_times (T : Tx K mg) : mg "_law_times" = some (.ref (He.ga K "_law_times")) := T.glob 36
theorem Tx.g_L_quotients (T : Tx K mg) : mg "_law_quotients" = some (.ref (He.ga K "_law_quotients")) := T.glob 37
theorem Tx.g_L_shares (T : Tx K mg) : mg "_law_shares" = some (.ref (He.ga K "_law_shares")) := T.glob 38
theorem Tx.g_L_lamp (T : Tx K mg) : mg "_law_lamp" = some (.ref (He.ga K "_law_lamp")) := T.glob 39
theorem Tx.g_L_generators (T : Tx K mg) : mg "_law_generators" = some (.ref (He.ga K "_law_generators")) := T.glob 40
theorem Tx.g_L_lit (T : Tx K mg) : mg "_law_lit" = some (.ref (He.ga K "_law_lit")) := T.glob 41
theorem Tx.g_L_is_pattern (T : Tx K mg) : mg "_law_is_pattern" = some (.ref (He.ga K "_law_is_pattern")) := T.glob 42
theorem Tx.g_L_pattern (T : Tx K mg) : mg "_law_pattern" = some (.ref (He.ga K "_law_pattern")) := T.glob 43
theorem Tx.g_L_seen (T : Tx K mg) : mg "_law_seen" = some (.ref (He.ga K "_law_seen")) := T.glob 44
theorem Tx.g_L_right (T : Tx K mg) : mg "_law_right" = some (.ref (He.ga K "_law_right")) := T.glob 45
theorem Tx.g_law (T : Tx K mg) : mg "law" = some (.ref (He.ga K "law")) := T.glob 46
theorem Tx.n_abs (T : Tx K mg) : mg "abs" = none := T.free 47
theorem Tx.n_isinstance (T : Tx K mg) : mg "isinstance" = none := T.free 48
theorem Tx.n_int (T : Tx K mg) : mg "int" = none := T.free 49
theorem Tx.n_bool (T : Tx K mg) : mg "bool" = none := T.free 50
theorem Tx.n_tuple (T : Tx K mg) : mg "tuple" = none := T.free 51
theorem Tx.n_len (T : Tx K mg) : mg "len" = none := T.free 52
theorem Tx.n_all (T : Tx K mg) : mg "all" = none := T.free 53
theorem Tx.n_zip (T : Tx K mg) : mg "zip" = none := T.free 54
theorem Tx.n_range (T : Tx K mg) : mg "range" = none := T.free 55
theorem Tx.n_enumerate (T : Tx K mg) : mg "enumerate" = none := T.free 56
theorem Tx.n_list (T : Tx K mg) : mg "list" = none := T.free 57
theorem Tx.c_Quotient (T : Tx K mg) : Cls K (He.ga K "Quotient") := He.cls_ok (T.fact 58)
theorem Tx.c_Observer (T : Tx K mg) : Cls K (He.ga K "Observer") := He.cls_ok (T.fact 59)
theorem Tx.c_View (T : Tx K mg) : Cls K (He.ga K "View") := He.cls_ok (T.fact 60)
theorem Tx.a_Quotient_top (T : Tx K mg) : NoAttr K (He.ga K "Quotient") "top" := He.noat_ok (T.fact 61)
theorem Tx.a_Quotient_bottom (T : Tx K mg) : NoAttr K (He.ga K "Quotient") "bottom" := He.noat_ok (T.fact 62)
theorem Tx.a_Observer_bands (T : Tx K mg) : NoAttr K (He.ga K "Observer") "bands" := He.noat_ok (T.fact 63)
theorem Tx.a_Observer_vectors (T : Tx K mg) : NoAttr K (He.ga K "Observer") "vectors" := He.noat_ok (T.fact 64)
theorem Tx.a_View_observer (T : Tx K mg) : NoAttr K (He.ga K "View") "observer" := He.noat_ok (T.fact 65)
theorem Tx.a_View_lamp (T : Tx K mg) : NoAttr K (He.ga K "View") "lamp" := He.noat_ok (T.fact 66)
theorem Tx.a_View_generators (T : Tx K mg) : NoAttr K (He.ga K "View") "generators" := He.noat_ok (T.fact 67)
theorem Tx.m_Quotient_init (T : Tx K mg) : Meth K (He.ga K "Quotient") "__init__" (He.ma K (He.ga K "Quotient") "__init__") := He.meth_ok (T.fact 68)
theorem Tx.m_Quotient_eq (T : Tx K mg) : Meth K (He.ga K "Quotient") "__eq__" (He.ma K (He.ga K "Quotient") "__eq__") := He.meth_ok (T.fact 69)
theorem Tx.m_Quotient_lt (T : Tx K mg) : Meth K (He.ga K "Quotient") "__lt__" (He.ma K (He.ga K "Quotient") "__lt__") := He.meth_ok (T.fact 70)
theorem Tx.m_Quotient_le (T : Tx K mg) : Meth K (He.ga K "Quotient") "__le__" (He.ma K (He.ga K "Quotient") "__le__") := He.meth_ok (T.fact 71)
theorem Tx.m_Quotient_add (T : Tx K mg) : Meth K (He.ga K "Quotient") "__add__" (He.ma K (He.ga K "Quotient") "__add__") := He.meth_ok (T.fact 72)
theorem Tx.m_Quotient_sub (T : Tx K mg) : Meth K (He.ga K "Quotient") "__sub__" (He.ma K (He.ga K "Quotient") "__sub__") := He.meth_ok (T.fact 73)
theorem Tx.m_Quotient_mul (T : Tx K mg) : Meth K (He.ga K "Quotient") "__mul__" (He.ma K (He.ga K "Quotient") "__mul__") := He.meth_ok (T.fact 74)
theorem Tx.m_Quotient_over (T : Tx K mg) : Meth K (He.ga K "Quotient") "over" (He.ma K (He.ga K "Quotient") "over") := He.meth_ok (T.fact 75)
theorem Tx.m_Observer_init (T : Tx K mg) : Meth K (He.ga K "Observer") "__init__" (He.ma K (He.ga K "Observer") "__init__") := He.meth_ok (T.fact 76)
theorem Tx.m_Observer_len (T : Tx K mg) : Meth K (He.ga K "Observer") "__len__" (He.ma K (He.ga K "Observer") "__len__") := He.meth_ok (T.fact 77)
theorem Tx.m_View_init (T : Tx K mg) : Meth K (He.ga K "View") "__init__" (He.ma K (He.ga K "View") "__init__") := He.meth_ok (T.fact 78)
theorem Tx.m_View_len (T : Tx K mg) : Meth K (He.ga K "View") "__len__" (He.ma K (He.ga K "View") "__len__") := He.meth_ok (T.fact 79)
theorem Tx.k_Quotient (T : Tx K mg) : Mk K (He.ga K "Quotient") (He.ma K (He.ga K "Quotient") "__init__") := He.mkr_ok (T.fact 80)
theorem Tx.k_Observer (T : Tx K mg) : Mk K (He.ga K "Observer") (He.ma K (He.ga K "Observer") "__init__") := He.mkr_ok (T.fact 81)
theorem Tx.k_View (T : Tx K mg) : Mk K (He.ga K "View") (He.ma K (He.ga K "View") "__init__") := He.mkr_ok (T.fact 82)
theorem Tx.k_common_part (T : Tx K mg) : PySem.W.keepIn K (.ref (He.ga K "common_part")) = true := He.keep_ok (T.fact 83)
theorem Tx.k_whole (T : Tx K mg) : PySem.W.keepIn K (.ref (He.ga K "whole")) = true := He.keep_ok (T.fact 84)
theorem Tx.k_zero (T : Tx K mg) : PySem.W.keepIn K (.ref (He.ga K "zero")) = true := He.keep_ok (T.fact 85)
theorem Tx.k_one (T : Tx K mg) : PySem.W.keepIn K (.ref (He.ga K "one")) = true := He.keep_ok (T.fact 86)
theorem Tx.k_is_quotient (T : Tx K mg) : PySem.W.keepIn K (.ref (He.ga K "is_quotient")) = true := He.keep_ok (T.fact 87)
theorem Tx.k_black (T : Tx K mg) : PySem.W.keepIn K (.ref (He.ga K "black")) = true := He.keep_ok (T.fact 88)
theorem Tx.k_det (T : Tx K mg) : PySem.W.keepIn K (.ref (He.ga K "det")) = true := He.keep_ok (T.fact 89)
theorem Tx.k_scaled (T : Tx K mg) : PySem.W.keepIn K (.ref (He.ga K "scaled")) = true := He.keep_ok (T.fact 90)
theorem Tx.k_added (T : Tx K mg) : PySem.W.keepIn K (.ref (He.ga K "added")) = true := He.keep_ok (T.fact 91)
theorem Tx.k_sum_of (T : Tx K mg) : PySem.W.keepIn K (.ref (He.ga K "sum_of")) = true := He.keep_ok (T.fact 92)
theorem Tx.k_is_number (T : Tx K mg) : PySem.W.keepIn K (.ref (He.ga K "is_number")) = true := He.keep_ok (T.fact 93)
theorem Tx.k_is_band (T : Tx K mg) : PySem.W.keepIn K (.ref (He.ga K "is_band")) = true := He.keep_ok (T.fact 94)
theorem Tx.k_first_irregular (T : Tx K mg) : PySem.W.keepIn K (.ref (He.ga K "first_irregular")) = true := He.keep_ok (T.fact 95)
theorem Tx.k_is_reflectance (T : Tx K mg) : PySem.W.keepIn K (.ref (He.ga K "is_reflectance")) = true := He.keep_ok (T.fact 96)
theorem Tx.k_check_reflectance (T : Tx K mg) : PySem.W.keepIn K (.ref (He.ga K "check_reflectance")) = true := He.keep_ok (T.fact 97)
theorem Tx.k_color_of (T : Tx K mg) : PySem.W.keepIn K (.ref (He.ga K "color_of")) = true := He.keep_ok (T.fact 98)
theorem Tx.k_is_match (T : Tx K mg) : PySem.W.keepIn K (.ref (He.ga K "is_match")) = true := He.keep_ok (T.fact 99)
theorem Tx.k_fours_of (T : Tx K mg) : PySem.W.keepIn K (.ref (He.ga K "fours_of")) = true := He.keep_ok (T.fact 100)
theorem Tx.k_other_det (T : Tx K mg) : PySem.W.keepIn K (.ref (He.ga K "other_det")) = true := He.keep_ok (T.fact 101)
theorem Tx.k_room_of (T : Tx K mg) : PySem.W.keepIn K (.ref (He.ga K "room_of")) = true := He.keep_ok (T.fact 102)
theorem Tx.k_rooms_of (T : Tx K mg) : PySem.W.keepIn K (.ref (He.ga K "rooms_of")) = true := He.keep_ok (T.fact 103)
theorem Tx.k_changed (T : Tx K mg) : PySem.W.keepIn K (.ref (He.ga K "changed")) = true := He.keep_ok (T.fact 104)
theorem Tx.k_other_match (T : Tx K mg) : PySem.W.keepIn K (.ref (He.ga K "other_match")) = true := He.keep_ok (T.fact 105)
theorem Tx.k_L_cell (T : Tx K mg) : PySem.W.keepIn K (.ref (He.ga K "_law_cell")) = true := He.keep_ok (T.fact 106)
theorem Tx.k_L_draws (T : Tx K mg) : PySem.W.keepIn K (.ref (He.ga K "_law_draws")) = true := He.keep_ok (T.fact 107)
theorem Tx.k_L_stream (T : Tx K mg) : PySem.W.keepIn K (.ref (He.ga K "_law_stream")) = true := He.keep_ok (T.fact 108)
theorem Tx.k_L_next (T : Tx K mg) : PySem.W.keepIn K (.ref (He.ga K "_law_next")) = true := He.keep_ok (T.fact 109)
theorem Tx.k_L_part (T : Tx K mg) : PySem.W.keepIn K (.ref (He.ga K "_law_part")) = true := He.keep_ok (T.fact 110)
theorem Tx.k_L_least (T : Tx K mg) : PySem.W.keepIn K (.ref (He.ga K "_law_least")) = true := He.keep_ok (T.fact 111)
theorem Tx.k_L_bands (T : Tx K mg) : PySem.W.keepIn K (.ref (He.ga K "_law_bands")) = true := He.keep_ok (T.fact 112)
theorem Tx.k_L_share (T : Tx K mg) : PySem.W.keepIn K (.ref (He.ga K "_law_share")) = true := He.keep_ok (T.fact 113)
theorem Tx.k_L_sum (T : Tx K mg) : PySem.W.keepIn K (.ref (He.ga K "_law_sum")) = true := He.keep_ok (T.fact 114)
theorem Tx.k_L_less (T : Tx K mg) : PySem.W.keepIn K (.ref (He.ga K "_law_less")) = true := He.keep_ok (T.fact 115)
theorem Tx.k_L_times (T : Tx K mg) : PySem.W.keepIn K (.ref (He.ga K "_law_times")) = true := He.keep_ok (T.fact 116)
theorem Tx.k_L_quotients (T : Tx K mg) : PySem.W.keepIn K (.ref (He.ga K "_law_quotients")) = true := He.keep_ok (T.fact 117)
theorem Tx.k_L_shares (T : Tx K mg) : PySem.W.keepIn K (.ref (He.ga K "_law_shares")) = true := He.keep_ok (T.fact 118)
theorem Tx.k_L_lamp (T : Tx K mg) : PySem.W.keepIn K (.ref (He.ga K "_law_lamp")) = true := He.keep_ok (T.fact 119)
theorem Tx.k_L_generators (T : Tx K mg) : PySem.W.keepIn K (.ref (He.ga K "_law_generators")) = true := He.keep_ok (T.fact 120)
theorem Tx.k_L_lit (T : Tx K mg) : PySem.W.keepIn K (.ref (He.ga K "_law_lit")) = true := He.keep_ok (T.fact 121)
theorem Tx.k_L_is_pattern (T : Tx K mg) : PySem.W.keepIn K (.ref (He.ga K "_law_is_pattern")) = true := He.keep_ok (T.fact 122)
theorem Tx.k_L_pattern (T : Tx K mg) : PySem.W.keepIn K (.ref (He.ga K "_law_pattern")) = true := He.keep_ok (T.fact 123)
theorem Tx.k_L_seen (T : Tx K mg) : PySem.W.keepIn K (.ref (He.ga K "_law_seen")) = true := He.keep_ok (T.fact 124)
theorem Tx.k_L_right (T : Tx K mg) : PySem.W.keepIn K (.ref (He.ga K "_law_right")) = true := He.keep_ok (T.fact 125)
theorem Tx.k_law (T : Tx K mg) : PySem.W.keepIn K (.ref (He.ga K "law")) = true := He.keep_ok (T.fact 126)
/-- the def by its place -/
theorem Tx.d_common_part (T : Tx K mg) : ∃ fd, Fun K "common_part" "common_part" scommon_part (He.ga K "common_part") fd := T.def_ 0 T.k_common_part
theorem Tx.d_Quotient_init (T : Tx K mg) : ∃ fd, Fun K "__init__" "Quotient.__init__" sQuotientinit (He.ma K (He.ga K "Quotient") "__init__") fd := T.meth_ 1 (T.m_Quotient_init).kp
theorem Tx.d_Quotient_eq (T : Tx K mg) : ∃ fd, Fun K "__eq__" "Quotient.__eq__" sQuotienteq (He.ma K (He.ga K "Quotient") "__eq__") fd := T.meth_ 2 (T.m_Quotient_eq).kp
theorem Tx.d_Quotient_lt (T : Tx K mg) : ∃ fd, Fun K "__lt__" "Quotient.__lt__" sQuotientlt (He.ma K (He.ga K "Quotient") "__lt__") fd := T.meth_ 3 (T.m_Quotient_lt).kp
theorem Tx.d_Quotient_le (T : Tx K mg) : ∃ fd, Fun K "__le__" "Quotient.__le__" sQuotientle (He.ma K (He.ga K "Quotient") "__le__") fd := T.meth_ 4 (T.m_Quotient_le).kp
theorem Tx.d_Quotient_add (T : Tx K mg) : ∃ fd, Fun K "__add__" "Quotient.__add__" sQuotientadd (He.ma K (He.ga K "Quotient") "__add__") fd := T.meth_ 5 (T.m_Quotient_add).kp
theorem Tx.d_Quotient_sub (T : Tx K mg) : ∃ fd, Fun K "__sub__" "Quotient.__sub__" sQuotientsub (He.ma K (He.ga K "Quotient") "__sub__") fd := T.meth_ 6 (T.m_Quotient_sub).kp
theorem Tx.d_Quotient_mul (T : Tx K mg) : ∃ fd, Fun K "__mul__" "Quotient.__mul__" sQuotientmul (He.ma K (He.ga K "Quotient") "__mul__") fd := T.meth_ 7 (T.m_Quotient_mul).kp
theorem Tx.d_Quotient_over (T : Tx K mg) : ∃ fd, Fun K "over" "Quotient.over" sQuotientover (He.ma K (He.ga K "Quotient") "over") fd := T.meth_ 8 (T.m_Quotient_over).kp
theorem Tx.d_whole (T : Tx K mg) : ∃ fd, Fun K "whole" "whole" swhole (He.ga K "whole") fd := T.def_ 9 T.k_whole
theorem Tx.d_zero (T : Tx K mg) : ∃ fd, Fun K "zero" "zero" szero (He.ga K "zero") fd := T.def_ 10 T.k_zero
theorem Tx.d_one (T : Tx K mg) : ∃ fd, Fun K "one" "one" sone (He.ga K "one") fd := T.def_ 11 T.k_one
theorem Tx.d_is_quotient (T : Tx K mg) : ∃ fd, Fun K "is_quotient" "is_quotient" sis_quotient (He.ga K "is_quotient") fd := T.def_ 12 T.k_is_quotient
theorem Tx.d_black (T : Tx K mg) : ∃ fd, Fun K "black" "black" sblack (He.ga K "black") fd := T.def_ 13 T.k_black
theorem Tx.d_det (T : Tx K mg) : ∃ fd, Fun K "det" "det" sdet (He.ga K "det") fd := T.def_ 14 T.k_det
theorem Tx.d_scaled (T : Tx K mg) : ∃ fd, Fun K "scaled" "scaled" sscaled (He.ga K "scaled") fd := T.def_ 15 T.k_scaled
theorem Tx.d_added (T : Tx K mg) : ∃ fd, Fun K "added" "added" sadded (He.ga K "added") fd := T.def_ 16 T.k_added
theorem Tx.d_sum_of (T : Tx K mg) : ∃ fd, Fun K "sum_of" "sum_of" ssum_of (He.ga K "sum_of") fd := T.def_ 17 T.k_sum_of
theorem Tx.d_is_number (T : Tx K mg) : ∃ fd, Fun K "is_number" "is_number" sis_number (He.ga K "is_number") fd := T.def_ 18 T.k_is_number
theorem Tx.d_is_band (T : Tx K mg) : ∃ fd, Fun K "is_band" "is_band" sis_band (He.ga K "is_band") fd := T.def_ 19 T.k_is_band
theorem Tx.d_first_irregular (T : Tx K mg) : ∃ fd, Fun K "first_irregular" "first_irregular" sfirst_irregular (He.ga K "first_irregular") fd := T.def_ 20 T.k_first_irregular
theorem Tx.d_Observer_init (T : Tx K mg) : ∃ fd, Fun K "__init__" "Observer.__init__" sObserverinit (He.ma K (He.ga K "Observer") "__init__") fd := T.meth_ 21 (T.m_Observer_init).kp
theorem Tx.d_Observer_len (T : Tx K mg) : ∃ fd, Fun K "__len__" "Observer.__len__" sObserverlen (He.ma K (He.ga K "Observer") "__len__") fd := T.meth_ 22 (T.m_Observer_len).kp
theorem Tx.d_View_init (T : Tx K mg) : ∃ fd, Fun K "__init__" "View.__init__" sViewinit (He.ma K (He.ga K "View") "__init__") fd := T.meth_ 23 (T.m_View_init).kp
theorem Tx.d_View_len (T : Tx K mg) : ∃ fd, Fun K "__len__" "View.__len__" sViewlen (He.ma K (He.ga K "View") "__len__") fd := T.meth_ 24 (T.m_View_len).kp
theorem Tx.d_is_reflectance (T : Tx K mg) : ∃ fd, Fun K "is_reflectance" "is_reflectance" sis_reflectance (He.ga K "is_reflectance") fd := T.def_ 25 T.k_is_reflectance
theorem Tx.d_check_reflectance (T : Tx K mg) : ∃ fd, Fun K "check_reflectance" "check_reflectance" scheck_reflectance (He.ga K "check_reflectance") fd := T.def_ 26 T.k_check_reflectance
theorem Tx.d_color_of (T : Tx K mg) : ∃ fd, Fun K "color_of" "color_of" scolor_of (He.ga K "color_of") fd := T.def_ 27 T.k_color_of
theorem Tx.d_is_match (T : Tx K mg) : ∃ fd, Fun K "is_match" "is_match" sis_match (He.ga K "is_match") fd := T.def_ 28 T.k_is_match
theorem Tx.d_fours_of (T : Tx K mg) : ∃ fd, Fun K "fours_of" "fours_of" sfours_of (He.ga K "fours_of") fd := T.def_ 29 T.k_fours_of
theorem Tx.d_other_det (T : Tx K mg) : ∃ fd, Fun K "other_det" "other_det" sother_det (He.ga K "other_det") fd := T.def_ 30 T.k_other_det
theorem Tx.d_room_of (T : Tx K mg) : ∃ fd, Fun K "room_of" "room_of" sroom_of (He.ga K "room_of") fd := T.def_ 31 T.k_room_of
theorem Tx.d_rooms_of (T : Tx K mg) : ∃ fd, Fun K "rooms_of" "rooms_of" srooms_of (He.ga K "rooms_of") fd := T.def_ 32 T.k_rooms_of
theorem Tx.d_changed (T : Tx K mg) : ∃ fd, Fun K "changed" "changed" schanged (He.ga K "changed") fd := T.def_ 33 T.k_changed
theorem Tx.d_other_match (T : Tx K mg) : ∃ fd, Fun K "other_match" "other_match" sother_match (He.ga K "other_match") fd := T.def_ 34 T.k_other_match
theorem Tx.d_L_cell (T : Tx K mg) : ∃ fd, Fun K "_law_cell" "_law_cell" sL_cell (He.ga K "_law_cell") fd := T.def_ 35 T.k_L_cell
theorem Tx.d_L_draws (T : Tx K mg) : ∃ fd, Fun K "_law_draws" "_law_draws" sL_draws (He.ga K "_law_draws") fd := T.def_ 36 T.k_L_draws
theorem Tx.d_L_stream (T : Tx K mg) : ∃ fd, Fun K "_law_stream" "_law_stream" sL_stream (He.ga K "_law_stream") fd := T.def_ 37 T.k_L_stream
theorem Tx.d_L_next (T : Tx K mg) : ∃ fd, Fun K "_law_next" "_law_next" sL_next (He.ga K "_law_next") fd := T.def_ 38 T.k_L_next
theorem Tx.d_L_part (T : Tx K mg) : ∃ fd, Fun K "_law_part" "_law_part" sL_part (He.ga K "_law_part") fd := T.def_ 39 T.k_L_part
theorem Tx.d_L_least (T : Tx K mg) : ∃ fd, Fun K "_law_least" "_law_least" sL_least (He.ga K "_law_least") fd := T.def_ 40 T.k_L_least
theorem Tx.d_L_bands (T : Tx K mg) : ∃ fd, Fun K "_law_bands" "_law_bands" sL_bands (He.ga K "_law_bands") fd := T.def_ 41 T.k_L_bands
theorem Tx.d_L_share (T : Tx K mg) : ∃ fd, Fun K "_law_share" "_law_share" sL_share (He.ga K "_law_share") fd := T.def_ 42 T.k_L_share
theorem Tx.d_L_sum (T : Tx K mg) : ∃ fd, Fun K "_law_sum" "_law_sum" sL_sum (He.ga K "_law_sum") fd := T.def_ 43 T.k_L_sum
theorem Tx.d_L_less (T : Tx K mg) : ∃ fd, Fun K "_law_less" "_law_less" sL_less (He.ga K "_law_less") fd := T.def_ 44 T.k_L_less
theorem Tx.d_L_times (T : Tx K mg) : ∃ fd, Fun K "_law_times" "_law_times" sL_times (He.ga K "_law_times") fd := T.def_ 45 T.k_L_times
theorem Tx.d_L_quotients (T : Tx K mg) : ∃ fd, Fun K "_law_quotients" "_law_quotients" sL_quotients (He.ga K "_law_quotients") fd := T.def_ 46 T.k_L_quotients
theorem Tx.d_L_shares (T : Tx K mg) : ∃ fd, Fun K "_law_shares" "_law_shares" sL_shares (He.ga K "_law_shares") fd := T.def_ 47 T.k_L_shares
theorem Tx.d_L_lamp (T : Tx K mg) : ∃ fd, Fun K "_law_lamp" "_law_lamp" sL_lamp (He.ga K "_law_lamp") fd := T.def_ 48 T.k_L_lamp
theorem Tx.d_L_generators (T : Tx K mg) : ∃ fd, Fun K "_law_generators" "_law_generators" sL_generators (He.ga K "_law_generators") fd := T.def_ 49 T.k_L_generators
theorem Tx.d_L_lit (T : Tx K mg) : ∃ fd, Fun K "_law_lit" "_law_lit" sL_lit (He.ga K "_law_lit") fd := T.def_ 50 T.k_L_lit
theorem Tx.d_L_is_pattern (T : Tx K mg) : ∃ fd, Fun K "_law_is_pattern" "_law_is_pattern" sL_is_pattern (He.ga K "_law_is_pattern") fd := T.def_ 51 T.k_L_is_pattern
theorem Tx.d_L_pattern (T : Tx K mg) : ∃ fd, Fun K "_law_pattern" "_law_pattern" sL_pattern (He.ga K "_law_pattern") fd := T.def_ 52 T.k_L_pattern
theorem Tx.d_L_seen (T : Tx K mg) : ∃ fd, Fun K "_law_seen" "_law_seen" sL_seen (He.ga K "_law_seen") fd := T.def_ 53 T.k_L_seen
theorem Tx.d_L_right (T : Tx K mg) : ∃ fd, Fun K "_law_right" "_law_right" sL_right (He.ga K "_law_right") fd := T.def_ 54 T.k_L_right
theorem Tx.d_law (T : Tx K mg) : ∃ fd, Fun K "law" "law" slaw (He.ga K "law") fd := T.def_ 55 T.k_law
end
end Ly
set_option Elab.async false
set_option linter.all false
set_option maxRecDepth 100000
set_option maxHeartbeats 4000000
/-! The quotients. -/
namespace Ly
open PySem PySem.Spec PyProof.Rows L2
/-! ### from a body to a promise -/
section
variable {Pg : Program} {w : World} {K : PySem.W.Frag} {mg : Str → Option Value} {base : Heap}
theorem mkDef {x q : Str} {st : Stmt} {N ps : List Str} {k : Nat} {α : Type} {pars : α → List HF} {cond : α → Prop} {res : α → HF} {f : Addr} (hm : mg x = some (.ref f)) (hk : PySem.W.keepIn K (.ref f) = true) (hF : ∃ fd, Fun K x q st f fd) (S : FnScope N ps (defScope st)) (hl : ∀ a, (pars a).length = ps.length)
    (hb : ∀ (kV doc pm : Value) (an : Option Addr) (cdv ct : Value) (us : List Value), us.length = ps.length → bindArgs (PySem.W.fnOf x q (defArgs st) (defBody st) (defScope st) .none kV doc pm an cdv ct) ⟨us, []⟩ = pure (ps.zip us))
    (body : ∀ (cdv : Value) (A : Around) (outer : List Env) (s : Shared) (H : Hp) (vs : List V) (Q : VK) (E : XK) (a : α), Room k (A.deeper (envOfC q (defScope st) s.heap.objs.size f cdv)) → Fit (pars a) vs H → cond a → (∀ v H1, Same H H1 → res a v H1 → Q v H1) →
      RSs (cxOf CX0 Pg w K mg base N q (defScope st) f cdv A outer s H E).nox (defBody st) { nx := fun _ H' => Q .non H', rt := Q } (start N vs) H) : DefOk Pg w K mg base x (k + 1) (spF pars cond res) := by
  obtain ⟨fd, F⟩ := hF
  refine ⟨f, fd, ps, hm, hk, F.ok S (fun vs H Q E h => spF_len hl vs H Q E h) (fun cdv A outer s H vs Q E hr h => ?_), F.binds hb⟩
  obtain ⟨a, fit, hc, k⟩ := h
  exact ⟨_, pss_rs, body cdv A outer s H vs Q E a hr fit hc k⟩
/-- a method's promise -/
structure MethOk (Pg : Program) (w : World) (K : PySem.W.Frag) (mg : Str → Option Value) (base : Heap) (C : Addr) (m : Str) (k : Nat) (sp : Sp) : Prop where
  ex : ∃ (g : Addr) (fd : FuncData) (ps : List Str), Meth K C m g ∧ FnOk Pg w K mg base CX0 k g fd ps sp ∧ Binds K fd ps []
theorem mkMeth {C : Addr} {x q : Str} {st : Stmt} {N ps : List Str} {k : Nat} {α : Type} {pars : α → List HF} {cond : α → Prop} {res : α → HF} {f : Addr} (hm : Meth K C x f) (hF : ∃ fd, Fun K x q st f fd) (S : FnScope N ps (defScope st)) (hl : ∀ a, (pars a).length = ps.length)
    (hb : ∀ (kV doc pm : Value) (an : Option Addr) (cdv ct : Value) (us : List Value), us.length = ps.length → bindArgs (PySem.W.fnOf x q (defArgs st) (defBody st) (defScope st) .none kV doc pm an cdv ct) ⟨us, []⟩ = pure (ps.zip us))
    (body : ∀ (cdv : Value) (A : Around) (outer : List Env) (s : Shared) (H : Hp) (vs : List V) (Q : VK) (E : XK) (a : α), Room k (A.deeper (envOfC q (defScope st) s.heap.objs.size f cdv)) → Fit (pars a) vs H → cond a → (∀ v H1, Same H H1 → res a v H1 → Q v H1) →
      RSs (cxOf CX0 Pg w K mg base N q (defScope st) f cdv A outer s H E).nox (defBody st) { nx := fun _ H' => Q .non H', rt := Q } (start N vs) H) : MethOk Pg w K mg base C x (k + 1) (spF pars cond res) := by
  obtain ⟨fd, F⟩ := hF
  refine ⟨f, fd, ps, hm, F.ok S (fun vs H Q E h => spF_len hl vs H Q E h) (fun cdv A outer s H vs Q E hr h => ?_), F.binds hb⟩
  obtain ⟨a, fit, hc, k⟩ := h
  exact ⟨_, pss_rs, body cdv A outer s H vs Q E a hr fit hc k⟩
theorem mkInit {C : Addr} {x q : Str} {st : Stmt} {N ps : List Str} {k : Nat} {α : Type} {pars : α → List HF} {cond : α → Prop} {fs : α → List (Str × V) → Hp → Prop} {f : Addr} (hm : mg x = some (.ref C)) (M : Mk K C f) (hF : ∃ fd, Fun K "__init__" q st f fd) (S : FnScope N ps (defScope st)) (hl : ∀ a, (pars a).length + 1 = ps.length)
    (hb : ∀ (kV doc pm : Value) (an : Option Addr) (cdv ct : Value) (us : List Value), us.length = ps.length → bindArgs (PySem.W.fnOf "__init__" q (defArgs st) (defBody st) (defScope st) .none kV doc pm an cdv ct) ⟨us, []⟩ = pure (ps.zip us))
    (body : ∀ (cdv : Value) (A : Around) (outer : List Env) (s : Shared) (H : Hp) (y dx : Addr) (us : List V) (Q : VK) (E : XK) (a : α), Room k (A.deeper (envOfC q (defScope st) s.heap.objs.size f cdv)) → H y = some (.ins C dx []) → Fit (pars a) us H → cond a →
      (∀ H1 l, (∀ b o, b ≠ y → H b = some o → H1 b = some o) → H1 y = some (.ins C dx l) → fs a l H1 → Q .non H1) →
      RSs (cxOf CX0 Pg w K mg base N q (defScope st) f cdv A outer s H E).nox (defBody st) { nx := fun _ H' => Q .non H', rt := Q } (start N (.ref y :: us)) H) : ClsOk Pg w K mg base x C (k + 1) (spN C pars cond fs) := by
  obtain ⟨fd, F⟩ := hF
  refine ⟨f, fd, ps, hm, M, F.ok S (fun vs H Q E h => ?_) (fun cdv A outer s H vs Q E hr h => ?_), F.binds hb⟩
  · obtain ⟨z, y, dx, us, rfl, _, f, _⟩ := h
    rw [List.length_cons, f.len, hl]
  · obtain ⟨a, y, dx, us, rfl, hy, fit, hc, k⟩ := h
    exact ⟨_, pss_rs, body cdv A outer s H y dx us Q E a hr hy fit hc k⟩
end
/-! ### quotients as objects -/
theorem ktb : ¬ (("top" : Str) = "bottom") := by decide +kernel
def qf (q : Rat) : List (Str × V) := putF "bottom" (.int (q.den : Int)) (putF "top" (.int q.num) [])
theorem qf_top (q : Rat) : (qf q).lookup ("top" : Str) = some (.int q.num) := by
  unfold qf
  rw [lookup_putF, if_neg ktb, lookup_putF, if_pos rfl]
theorem qf_bot (q : Rat) : (qf q).lookup ("bottom" : Str) = some (.int (q.den : Int)) := by
  unfold qf
  rw [lookup_putF, if_pos rfl]
theorem qf_no (q : Rat) {m : Str} (h1 : ¬ m = "top") (h2 : ¬ m = "bottom") : (qf q).lookup m = none := by
  unfold qf
  rw [lookup_putF, if_neg h2, lookup_putF, if_neg h1]
  rfl
/-- a quotient, its size -/
def isQ (C : Addr) (n : Nat) (q : Rat) : HF := fun v H => CM.Bd n q ∧ ∃ a dx, v = .ref a ∧ H a = some (.ins C dx (qf q))
instance {R : Hp → Hp → Prop} [Rel R] {C : Addr} {n : Nat} {q : Rat} : Mo R (isQ C n q) := ⟨fun e h => by
  obtain ⟨b, a, dx, rfl, ha⟩ := h
  exact ⟨b, a, dx, rfl, Rel.nl e ha nl_ins⟩⟩
theorem isQ.up {C : Addr} {n m : Nat} {q : Rat} {v : V} {H : Hp} (h : isQ C n q v H) (l : n ≤ m) : isQ C m q v H := ⟨h.1.mono l, h.2⟩
section
variable {R : Hp → Hp → Prop} {X : Cx} {σ : SS} {H H' : Hp} {P P' Pa Pb Pc : HF} {D : Ends} [Rel R] {e a b c : Expr} {es : List Expr} {pos p apos : Pos} {C : Addr} {n m : Nat} {q r : Rat}
theorem ev_top (cl : Cls X.K C) (na : NoAttr X.K C "top") (ha : EV R X e σ H (isQ C n q)) (hb : attributeBase e "top" X.env (eval e X.env) = eval e X.env := by rfl) : EV R X (.Attribute e "top" pos) σ H (isI q.num) :=
  ev_fldG ha (fun x H1 _ ⟨_, a, dx, ex, ha⟩ => ⟨a, C, dx, _, _, ex, ha, cl, na, qf_top q, rfl⟩) hb
theorem ev_bot (cl : Cls X.K C) (na : NoAttr X.K C "bottom") (ha : EV R X e σ H (isQ C n q)) (hb : attributeBase e "bottom" X.env (eval e X.env) = eval e X.env := by rfl) : EV R X (.Attribute e "bottom" pos) σ H (isI (q.den : Int)) :=
  ev_fldG ha (fun x H1 _ ⟨_, a, dx, ex, ha⟩ => ⟨a, C, dx, _, _, ex, ha, cl, na, qf_bot q, rfl⟩) hb
/-- an own operator by its method's promise -/
theorem ev_own {op : Operator} {α : Type} {pars : α → List HF} {cond : α → Prop} {res : α → HF} {k : Nat} (G : MethOk X.prog X.w X.K X.mg X.base C (PySem.dunder op.info.2) k (spF pars cond res)) (hr : Room k X.A) (sf : PySem.W.selfFirst X.K C = true) (z : α) (hc : cond z)
    (hz : pars z = [Pa, Pb]) (ia : ∀ v H, Pa v H → ∃ a dx fs, v = .ref a ∧ H a = some (.ins C dx fs)) (ib : ∀ v H, Pb v H → ∃ a dx fs, v = .ref a ∧ H a = some (.ins C dx fs)) (ha : EV R X a σ H Pa) (hb : EV R X b σ H Pb) [Mo R Pa] : EV R X (.BinOp a op b pos) σ H (res z) := by
  obtain ⟨g, fd, ps, M, F, hB⟩ := G.ex
  refine ev_op (op_ownB M.at_ M.fn sf F hB hr) ha hb fun x y H1 r px py Q q => ?_
  obtain ⟨u, du, fu, rfl, hu⟩ := ia x H1 px
  obtain ⟨v, dv, fv, rfl, hv⟩ := ib y H1 py
  exact ⟨u, v, du, dv, fu, fv, rfl, rfl, hu, hv, z, by rw [hz]; exact ⟨_, _, rfl, px, _, _, rfl, py, rfl⟩, hc, fun v H2 s pv => q v H2 (Rel.sm s) pv⟩
theorem ev_ownC {op : CmpOp} {α : Type} {pars : α → List HF} {cond : α → Prop} {res : α → HF} {k : Nat} (hop : ∀ a b, compareOp op a b = richCompare op a b) (G : MethOk X.prog X.w X.K X.mg X.base C (cmpInfo op).2.1 k (spF pars cond res)) (hr : Room k X.A) (z : α) (hc : cond z)
    (hz : pars z = [Pa, Pb]) (ia : ∀ v H, Pa v H → ∃ a dx fs, v = .ref a ∧ H a = some (.ins C dx fs)) (ib : ∀ v H, Pb v H → ∃ a dx fs, v = .ref a ∧ H a = some (.ins C dx fs)) (ha : EV R X a σ H Pa) (hb : EV R X b σ H Pb) [Mo R Pa] (hm : behindInMarks op b = false := by exact nomark _) : EV R X (.Compare a [op] [b] pos) σ H (res z) := by
  obtain ⟨g, fd, ps, M, F, hB⟩ := G.ex
  refine ev_cmp (op_ownC hop M.at_ M.fn F hB hr) ha hb (fun x y H1 r px py Q q => ?_) hm
  obtain ⟨u, du, fu, rfl, hu⟩ := ia x H1 px
  obtain ⟨v, dv, fv, rfl, hv⟩ := ib y H1 py
  exact ⟨u, v, du, dv, fu, fv, rfl, rfl, hu, hv, z, by rw [hz]; exact ⟨_, _, rfl, px, _, _, rfl, py, rfl⟩, hc, fun v H2 s pv => q v H2 (Rel.sm s) pv⟩
theorem etE {p : Bool → Prop} (h : EV R X e σ H (isBp p)) (he : ∀ whole, isTrue e X.env whole = (do let v ← whole; standAt e.pos; holding [v] (truthy v)) := by intro _; rfl) : ET R X e σ H p := et_val h he
/-- a comparison by an own operator, as a test -/
theorem et_ownC {op : CmpOp} {α : Type} {pars : α → List HF} {cond : α → Prop} {bb : α → Bool} {k : Nat} (hop : ∀ a b, compareOp op a b = richCompare op a b) (G : MethOk X.prog X.w X.K X.mg X.base C (cmpInfo op).2.1 k (spF pars cond fun z => isB (bb z))) (hr : Room k X.A) (z : α) (hc : cond z)
    (hz : pars z = [Pa, Pb]) (ia : ∀ v H, Pa v H → ∃ a dx fs, v = .ref a ∧ H a = some (.ins C dx fs)) (ib : ∀ v H, Pb v H → ∃ a dx fs, v = .ref a ∧ H a = some (.ins C dx fs)) (ha : EV R X a σ H Pa) (hb : EV R X b σ H Pb) [Mo R Pa] (hm : behindInMarks op b = false := by exact nomark _) : ET R X (.Compare a [op] [b] pos) σ H (· = bb z) := by
  obtain ⟨g, fd, ps, M, F, hB⟩ := G.ex
  refine et_cmp (op_ownC hop M.at_ M.fn F hB hr) ha hb (fun x y H1 r px py Q q => ?_) hm
  obtain ⟨u, du, fu, rfl, hu⟩ := ia x H1 px
  obtain ⟨v, dv, fv, rfl, hv⟩ := ib y H1 py
  exact ⟨u, v, du, dv, fu, fv, rfl, rfl, hu, hv, z, by rw [hz]; exact ⟨_, _, rfl, px, _, _, rfl, py, rfl⟩, hc, fun v H2 s pv => q v H2 (Rel.sm s) ⟨_, rfl, pv⟩⟩
theorem isQ.ins {v : V} (h : isQ C n q v H) : ∃ a dx fs, v = .ref a ∧ H a = some (.ins C dx fs) := by
  obtain ⟨_, a, dx, e, ha⟩ := h
  exact ⟨a, dx, _, e, ha⟩
end
/-! ### the defs -/
section
variable {Pg : Program} {w : World} {K : PySem.W.Frag} {mg : Str → Option Value} {base : Heap}
theorem scCommon : FnScope ["first", "second"] ["first", "second"] (defScope scommon_part) := ⟨rfl, rfl, rfl, by decide +kernel, rfl, by decide +kernel, by decide +kernel⟩
theorem ok_common (T : Tx K mg) : DefOk Pg w K mg base "common_part" 1 (spF (fun z : Int × Int => [isI z.1, isI z.2]) (fun _ => True) fun z => isI (Int.gcd z.1 z.2 : Int)) := by
  refine mkDef T.g_common_part T.k_common_part T.d_common_part scCommon (fun _ => rfl) (fun _ _ _ _ _ _ us hl => match us, hl with | [_, _], _ => rfl) fun cdv A outer s H vs Q E z hr fit _ k => ?_
  obtain ⟨t, b⟩ := z
  obtain ⟨_, _, rfl, rfl, rfl⟩ := fit2 fit
  refine b_set (R := Same) 0 (ev_abs T.n_abs (ev_vv 0 rfl)) (fun v H1 s1 pv => ?_) scCommon.nd
  cases pv
  refine b_set (R := Same) 1 (ev_abs T.n_abs (ev_vv 1 rfl)) (fun v H2 s2 pv => ?_) scCommon.nd
  cases pv
  refine b_while (R := Same) (fun m σ H3 => ∃ x y : Nat, σ = [some (.int x), some (.int y)] ∧ m = y ∧ Nat.gcd x y = Int.gcd t b ∧ Same H H3) b.natAbs ⟨t.natAbs, b.natAbs, rfl, rfl, rfl, s1.trans s2⟩ (fun m σ1 H3 hW => ?_) PassesOwn.never
  obtain ⟨x, y, rfl, rfl, hg, s3⟩ := hW
  refine ⟨_, et_c0 op_gt (ev_vv 1 rfl) ev_int, fun ht H4 s4 => ?_, fun ht H4 s4 => ?_⟩
  · have hy : (0 : Int) < (m : Int) := of_decide_eq_true ht.symm
    refine b_par (R := Same) 0 1 (ea_cons (ev_vv 1 rfl) (ea_cons (ev_i1 op_mod hy (ev_vv 0 rfl) (ev_vv 1 rfl)) ea_nil)) (fun v w2 H5 s5 pv pw => RSs.nil ?_) scCommon.nd
    cases pv
    cases pw
    refine ⟨x % m, Nat.mod_lt _ (by omega), m, x % m, ?_, rfl, ?_, (s3.trans s4).trans s5⟩
    · show [some (V.int (m : Int)), some (V.int ((x : Int) % (m : Int)))] = _
      rw [Int.natCast_emod]
    · rw [← hg, Nat.gcd_comm m, ← Nat.gcd_rec, Nat.gcd_comm]
  · refine b_ret (R := Same) (ev_vv 0 rfl) fun v H5 s5 pv => k v H5 ((s3.trans s4).trans s5) ?_
    have hy : ¬ (0 : Int) < (m : Int) := of_decide_eq_false ht.symm
    have h0 : m = 0 := by omega
    subst h0
    rw [Nat.gcd_zero_right] at hg
    cases pv
    show V.int _ = V.int _
    rw [hg]
end
end Ly
set_option Elab.async false
set_option linter.all false
set_option maxRecDepth 100000
set_option maxHeartbeats 4000000
/-! The quotients' methods. -/
namespace Ly
open PySem PySem.Spec PyProof.Rows L2
section
variable {Pg : Program} {w : World} {K : PySem.W.Frag} {mg : Str → Option Value} {base : Heap}
abbrev cQ (K : PySem.W.Frag) : Addr := He.ga K "Quotient"
theorem scQI : FnScope ["self", "top", "bottom", "part"] ["self", "top", "bottom"] (defScope sQuotientinit) := ⟨rfl, rfl, rfl, by decide +kernel, rfl, by decide +kernel, by decide +kernel⟩
def condQ (z : Nat × Int × Int) : Prop := 0 < z.2.2 ∧ z.2.1.natAbs < 2 ^ z.1 ∧ z.2.2.natAbs < 2 ^ z.1 ∧ 0 < z.1 ∧ z.1 ≤ 8000
def fsQ (z : Nat × Int × Int) (l : List (Str × V)) (_ : Hp) : Prop := l = qf (Rat.divInt z.2.1 z.2.2) ∧ CM.Bd z.1 (Rat.divInt z.2.1 z.2.2)
abbrev spQI (K : PySem.W.Frag) : Sp := spN (cQ K) (fun z : Nat × Int × Int => [isI z.2.1, isI z.2.2]) condQ fsQ
theorem ok_QI (T : Tx K mg) : ClsOk Pg w K mg base "Quotient" (cQ K) 2 (spQI K) := by
  refine mkInit T.g_Quotient T.k_Quotient T.d_Quotient_init scQI (fun _ => rfl) (fun _ _ _ _ _ _ us hl => match us, hl with | [_, _, _], _ => rfl) fun cdv A outer s H y dx us Q E z hr hy fit hc k => ?_
  obtain ⟨n, t, b⟩ := z
  obtain ⟨hb, h1, h2, h3, h4⟩ := hc
  have hb : 0 < b := hb
  have h1 : t.natAbs < 2 ^ n := h1
  have h2 : b.natAbs < 2 ^ n := h2
  have h3 : 0 < n := h3
  have h4 : n ≤ 8000 := h4
  obtain ⟨_, _, rfl, rfl, rfl⟩ := fit2 fit
  refine b_when (R := Same) (et_eq (ev_vv 2 rfl) ev_int) (fun ht => ?_) (fun ht H1 s1 => ?_)
  · have e : V.int b = V.int 0 := of_decide_eq_true ht.symm
    cases e
    omega
  have hg0 : 0 < Int.gcd t b := CM.gcd_pos hb
  have hg1 : (Int.gcd t b) < 2 ^ n := Nat.lt_of_le_of_lt (CM.gcd_le hb) h2
  refine b_set (R := Same) 3 (ev_call (ok_common T) hr (t, b) trivial (ea_cons (ev_vv 1 rfl) (ea_cons (ev_vv 2 rfl) ea_nil))) (fun v H2 s2 pv => ?_) scQI.nd
  cases pv
  refine b_when (R := Same) (et_c0 op_lt (ev_vv 2 rfl) ev_int) (fun ht => ?_) (fun ht H3 s3 => ?_)
  · have e : b < 0 := of_decide_eq_true ht.symm
    omega
  have s03 : Same H H3 := (s1.trans s2).trans s3
  have cd : CDivW 0 (Int.gcd t b : Int) := wide_div (b := n) (by omega) (by simpa using hg1) h3 (by omega)
  refine b_fld (R := Same) (ev_i1 op_fdivW (show CDivW t (Int.gcd t b : Int) from cd) (ev_vv 1 rfl) (ev_vv 3 rfl)) (ev_vv 0 rfl) (fun v o H4 s4 pv po => ?_)
  cases pv
  cases po
  refine ⟨y, cQ K, dx, [], rfl, s4 _ _ (s03 _ _ hy), T.c_Quotient, T.a_Quotient_top, by decide, ?_⟩
  refine b_fld (R := Same) (ev_i1 op_fdivW (show CDivW b (Int.gcd t b : Int) from cd) (ev_vv 2 rfl) (ev_vv 3 rfl)) (ev_vv 0 rfl) (fun v o H5 s5 pv po => ?_)
  cases pv
  cases po
  refine ⟨y, cQ K, dx, _, rfl, s5 _ _ upd_same, T.c_Quotient, T.a_Quotient_bottom, by show 1 < 1000; decide, RSs.nil ?_⟩
  refine k _ _ (fun c o hc ho => ?_) upd_same ⟨?_, CM.bd_divInt hb h1 h2⟩
  · rw [upd_ne hc]
    refine s5 _ _ ?_
    rw [upd_ne hc]
    exact s4 _ _ (s03 _ _ ho)
  · show putF "bottom" _ (putF "top" _ []) = putF "bottom" _ (putF "top" _ [])
    rw [CM.divInt_num hb, CM.divInt_den hb]
section
variable {R : Hp → Hp → Prop} {X : Cx} {σ : SS} {H H' : Hp} {P P' Pa Pb Pc : HF} {D : Ends} [Rel R] {e a b c : Expr} {es : List Expr} {pos p apos : Pos} {C : Addr} {n m : Nat} {q r : Rat}
/-- Quotient(t, b) -/
theorem ev_quot {t b' : Int} (G : ClsOk X.prog X.w X.K X.mg X.base "Quotient" (cQ X.K) 2 (spQI X.K)) (hr : Room 3 X.A) (hb : 0 < b') (h1 : t.natAbs < 2 ^ n) (h2 : b'.natAbs < 2 ^ n) (h3 : 0 < n) (h4 : n ≤ 8000) (ha : EA R X [a, b] σ H [isI t, isI b'])
    (hg : Gl X "Quotient" := by rfl) (he : starEach [a, b] X.env = (false, eval a X.env) :: starEach [b] X.env := by rfl) (hpl : (backTo pos (starEach [b] X.env)).any (·.1) = false := by rfl) : EV R X (.Call (.Name "Quotient" p) [a, b] [] pos) σ H (isQ (cQ X.K) n (Rat.divInt t b')) :=
  (ev_new G hr (n, t, b') ⟨hb, h1, h2, h3, h4⟩ (fun P hP => by
    rcases List.mem_cons.mp hP with e | hP
    · rw [e]; infer_instance
    · rw [List.mem_singleton.mp hP]; infer_instance) ha hg (by decide) he hpl).imp fun v H1 _ ⟨x, dx, l, ev, hx, el, bd⟩ => ⟨bd, x, dx, ev, by rw [hx, el]⟩
end
/-! two quotients to a quotient -/
abbrev Q2 : Type := (Nat × Rat) × (Nat × Rat)
abbrev parQ2 (K : PySem.W.Frag) (z : Q2) : List HF := [isQ (cQ K) z.1.1 z.1.2, isQ (cQ K) z.2.1 z.2.2]
def condQ2 (z : Q2) : Prop := z.1.1 + z.2.1 + 1 ≤ 8000
theorem scQadd : FnScope ["self", "other"] ["self", "other"] (defScope sQuotientadd) := ⟨rfl, rfl, rfl, by decide +kernel, rfl, by decide +kernel, by decide +kernel⟩
theorem scQsub : FnScope ["self", "other"] ["self", "other"] (defScope sQuotientsub) := ⟨rfl, rfl, rfl, by decide +kernel, rfl, by decide +kernel, by decide +kernel⟩
theorem scQmul : FnScope ["self", "other"] ["self", "other"] (defScope sQuotientmul) := ⟨rfl, rfl, rfl, by decide +kernel, rfl, by decide +kernel, by decide +kernel⟩
theorem scQover : FnScope ["self", "other"] ["self", "other"] (defScope sQuotientover) := ⟨rfl, rfl, rfl, by decide +kernel, rfl, by decide +kernel, by decide +kernel⟩
theorem scQlt : FnScope ["self", "other"] ["self", "other"] (defScope sQuotientlt) := ⟨rfl, rfl, rfl, by decide +kernel, rfl, by decide +kernel, by decide +kernel⟩
theorem scQle : FnScope ["self", "other"] ["self", "other"] (defScope sQuotientle) := ⟨rfl, rfl, rfl, by decide +kernel, rfl, by decide +kernel, by decide +kernel⟩
theorem bdpos {n : Nat} {q : Rat} (h : CM.Bd n q) : 0 < n := by
  rcases Nat.eq_zero_or_pos n with e | e
  · subst e
    have := h.2
    have := q.den_pos
    omega
  · exact e
theorem ok_add (T : Tx K mg) : MethOk Pg w K mg base (cQ K) "__add__" 4 (spF (parQ2 K) condQ2 fun z => isQ (cQ K) (z.1.1 + z.2.1 + 1) (z.1.2 + z.2.2)) := by
  refine mkMeth T.m_Quotient_add T.d_Quotient_add scQadd (fun _ => rfl) (fun _ _ _ _ _ _ us hl => match us, hl with | [_, _], _ => rfl) fun cdv A outer s H vs Q E z hr fit hc k => ?_
  obtain ⟨⟨n, p⟩, m, q⟩ := z
  obtain ⟨x, y, rfl, hx, hy⟩ := fit2 fit
  have hx : isQ (cQ K) n p x H := hx
  have hy : isQ (cQ K) m q y H := hy
  have hc : n + m + 1 ≤ 8000 := hc
  have pn := bdpos hx.1
  have pm := bdpos hy.1
  refine b_ret (R := Same) (ev_quot (n := n + m + 1) (ok_QI T) hr CM.mulpos (CM.lt_add (CM.lt_mul hx.1.1 (CM.lt_den hy.1)) (by
      have := CM.lt_mul hy.1.1 (CM.lt_den hx.1)
      rwa [Nat.add_comm m n] at this)) (CM.lt_up (CM.lt_mul (CM.lt_den hx.1) (CM.lt_den hy.1)) (by omega)) (by omega) hc
    (ea_cons (ev_add (ev_mul (n := n) (m := m) hx.1.1 (CM.lt_den hy.1) (by simp; omega) (ev_top T.c_Quotient T.a_Quotient_top (ev_var 0 rfl hx)) (ev_bot T.c_Quotient T.a_Quotient_bottom (ev_var 1 rfl hy)))
      (ev_mul (n := m) (m := n) hy.1.1 (CM.lt_den hx.1) (by simp; omega) (ev_top T.c_Quotient T.a_Quotient_top (ev_var 1 rfl hy)) (ev_bot T.c_Quotient T.a_Quotient_bottom (ev_var 0 rfl hx))))
    (ea_cons (ev_mul (n := n) (m := m) (CM.lt_den hx.1) (CM.lt_den hy.1) (by simp; omega) (ev_bot T.c_Quotient T.a_Quotient_bottom (ev_var 0 rfl hx)) (ev_bot T.c_Quotient T.a_Quotient_bottom (ev_var 1 rfl hy))) ea_nil))) fun v H1 s1 pv => k v H1 s1 ?_
  rw [CM.q_add] at pv
  exact pv
theorem ok_sub (T : Tx K mg) : MethOk Pg w K mg base (cQ K) "__sub__" 4 (spF (parQ2 K) condQ2 fun z => isQ (cQ K) (z.1.1 + z.2.1 + 1) (z.1.2 - z.2.2)) := by
  refine mkMeth T.m_Quotient_sub T.d_Quotient_sub scQsub (fun _ => rfl) (fun _ _ _ _ _ _ us hl => match us, hl with | [_, _], _ => rfl) fun cdv A outer s H vs Q E z hr fit hc k => ?_
  obtain ⟨⟨n, p⟩, m, q⟩ := z
  obtain ⟨x, y, rfl, hx, hy⟩ := fit2 fit
  have hx : isQ (cQ K) n p x H := hx
  have hy : isQ (cQ K) m q y H := hy
  have hc : n + m + 1 ≤ 8000 := hc
  have pn := bdpos hx.1
  have pm := bdpos hy.1
  refine b_ret (R := Same) (ev_quot (n := n + m + 1) (ok_QI T) hr CM.mulpos (CM.lt_sub (CM.lt_mul hx.1.1 (CM.lt_den hy.1)) (by
      have := CM.lt_mul hy.1.1 (CM.lt_den hx.1)
      rwa [Nat.add_comm m n] at this)) (CM.lt_up (CM.lt_mul (CM.lt_den hx.1) (CM.lt_den hy.1)) (by omega)) (by omega) hc
    (ea_cons (ev_sub (ev_mul (n := n) (m := m) hx.1.1 (CM.lt_den hy.1) (by simp; omega) (ev_top T.c_Quotient T.a_Quotient_top (ev_var 0 rfl hx)) (ev_bot T.c_Quotient T.a_Quotient_bottom (ev_var 1 rfl hy)))
      (ev_mul (n := m) (m := n) hy.1.1 (CM.lt_den hx.1) (by simp; omega) (ev_top T.c_Quotient T.a_Quotient_top (ev_var 1 rfl hy)) (ev_bot T.c_Quotient T.a_Quotient_bottom (ev_var 0 rfl hx))))
    (ea_cons (ev_mul (n := n) (m := m) (CM.lt_den hx.1) (CM.lt_den hy.1) (by simp; omega) (ev_bot T.c_Quotient T.a_Quotient_bottom (ev_var 0 rfl hx)) (ev_bot T.c_Quotient T.a_Quotient_bottom (ev_var 1 rfl hy))) ea_nil))) fun v H1 s1 pv => k v H1 s1 ?_
  rw [CM.q_sub] at pv
  exact pv
theorem ok_mul (T : Tx K mg) : MethOk Pg w K mg base (cQ K) "__mul__" 4 (spF (parQ2 K) condQ2 fun z => isQ (cQ K) (z.1.1 + z.2.1) (z.1.2 * z.2.2)) := by
  refine mkMeth T.m_Quotient_mul T.d_Quotient_mul scQmul (fun _ => rfl) (fun _ _ _ _ _ _ us hl => match us, hl with | [_, _], _ => rfl) fun cdv A outer s H vs Q E z hr fit hc k => ?_
  obtain ⟨⟨n, p⟩, m, q⟩ := z
  obtain ⟨x, y, rfl, hx, hy⟩ := fit2 fit
  have hx : isQ (cQ K) n p x H := hx
  have hy : isQ (cQ K) m q y H := hy
  have hc : n + m + 1 ≤ 8000 := hc
  have pn := bdpos hx.1
  have pm := bdpos hy.1
  refine b_ret (R := Same) (ev_quot (n := n + m) (ok_QI T) hr CM.mulpos (CM.lt_mul hx.1.1 hy.1.1) (CM.lt_mul (CM.lt_den hx.1) (CM.lt_den hy.1)) (by omega) (by omega)
    (ea_cons (ev_mul (n := n) (m := m) hx.1.1 hy.1.1 (by simp; omega) (ev_top T.c_Quotient T.a_Quotient_top (ev_var 0 rfl hx)) (ev_top T.c_Quotient T.a_Quotient_top (ev_var 1 rfl hy)))
    (ea_cons (ev_mul (n := n) (m := m) (CM.lt_den hx.1) (CM.lt_den hy.1) (by simp; omega) (ev_bot T.c_Quotient T.a_Quotient_bottom (ev_var 0 rfl hx)) (ev_bot T.c_Quotient T.a_Quotient_bottom (ev_var 1 rfl hy))) ea_nil))) fun v H1 s1 pv => k v H1 s1 ?_
  rw [CM.q_mul] at pv
  exact pv
theorem ok_over (T : Tx K mg) : MethOk Pg w K mg base (cQ K) "over" 4 (spF (parQ2 K) (fun z => condQ2 z ∧ 0 < z.2.2) fun z => isQ (cQ K) (z.1.1 + z.2.1) (z.1.2 / z.2.2)) := by
  refine mkMeth T.m_Quotient_over T.d_Quotient_over scQover (fun _ => rfl) (fun _ _ _ _ _ _ us hl => match us, hl with | [_, _], _ => rfl) fun cdv A outer s H vs Q E z hr fit hc k => ?_
  obtain ⟨⟨n, p⟩, m, q⟩ := z
  obtain ⟨x, y, rfl, hx, hy⟩ := fit2 fit
  have hx : isQ (cQ K) n p x H := hx
  have hy : isQ (cQ K) m q y H := hy
  obtain ⟨hc, h0⟩ := hc
  have hc : n + m + 1 ≤ 8000 := hc
  have h0 : 0 < q := h0
  have pn := bdpos hx.1
  have pm := bdpos hy.1
  refine b_ret (R := Same) (ev_quot (n := n + m) (ok_QI T) hr (Int.mul_pos (CM.denpos p) (CM.numpos h0)) (CM.lt_mul hx.1.1 (CM.lt_den hy.1)) (CM.lt_mul (CM.lt_den hx.1) hy.1.1) (by omega) (by omega)
    (ea_cons (ev_mul (n := n) (m := m) hx.1.1 (CM.lt_den hy.1) (by simp; omega) (ev_top T.c_Quotient T.a_Quotient_top (ev_var 0 rfl hx)) (ev_bot T.c_Quotient T.a_Quotient_bottom (ev_var 1 rfl hy)))
    (ea_cons (ev_mul (n := n) (m := m) (CM.lt_den hx.1) hy.1.1 (by simp; omega) (ev_bot T.c_Quotient T.a_Quotient_bottom (ev_var 0 rfl hx)) (ev_top T.c_Quotient T.a_Quotient_top (ev_var 1 rfl hy))) ea_nil))) fun v H1 s1 pv => k v H1 s1 ?_
  rw [CM.q_div] at pv
  exact pv
theorem ok_lt (T : Tx K mg) : MethOk Pg w K mg base (cQ K) "__lt__" 1 (spF (parQ2 K) condQ2 fun z => isB (decide (z.1.2 < z.2.2))) := by
  refine mkMeth T.m_Quotient_lt T.d_Quotient_lt scQlt (fun _ => rfl) (fun _ _ _ _ _ _ us hl => match us, hl with | [_, _], _ => rfl) fun cdv A outer s H vs Q E z hr fit hc k => ?_
  obtain ⟨⟨n, p⟩, m, q⟩ := z
  obtain ⟨x, y, rfl, hx, hy⟩ := fit2 fit
  have hx : isQ (cQ K) n p x H := hx
  have hy : isQ (cQ K) m q y H := hy
  have hc : n + m + 1 ≤ 8000 := hc
  have pn := bdpos hx.1
  have pm := bdpos hy.1
  refine b_ret (R := Same) (ev_c0 op_lt (ev_mul (n := n) (m := m) hx.1.1 (CM.lt_den hy.1) (by simp; omega) (ev_top T.c_Quotient T.a_Quotient_top (ev_var 0 rfl hx)) (ev_bot T.c_Quotient T.a_Quotient_bottom (ev_var 1 rfl hy)))
      (ev_mul (n := m) (m := n) hy.1.1 (CM.lt_den hx.1) (by simp; omega) (ev_top T.c_Quotient T.a_Quotient_top (ev_var 1 rfl hy)) (ev_bot T.c_Quotient T.a_Quotient_bottom (ev_var 0 rfl hx)))) fun v H1 s1 pv => k v H1 s1 ?_
  rw [show v = _ from pv]
  show V.bl _ = V.bl _
  congr 1
  exact decide_eq_decide.mpr (Rat.lt_iff p q).symm
theorem ok_le (T : Tx K mg) : MethOk Pg w K mg base (cQ K) "__le__" 1 (spF (parQ2 K) condQ2 fun z => isB (decide (z.1.2 ≤ z.2.2))) := by
  refine mkMeth T.m_Quotient_le T.d_Quotient_le scQle (fun _ => rfl) (fun _ _ _ _ _ _ us hl => match us, hl with | [_, _], _ => rfl) fun cdv A outer s H vs Q E z hr fit hc k => ?_
  obtain ⟨⟨n, p⟩, m, q⟩ := z
  obtain ⟨x, y, rfl, hx, hy⟩ := fit2 fit
  have hx : isQ (cQ K) n p x H := hx
  have hy : isQ (cQ K) m q y H := hy
  have hc : n + m + 1 ≤ 8000 := hc
  have pn := bdpos hx.1
  have pm := bdpos hy.1
  refine b_ret (R := Same) (ev_c0 op_le (ev_mul (n := n) (m := m) hx.1.1 (CM.lt_den hy.1) (by simp; omega) (ev_top T.c_Quotient T.a_Quotient_top (ev_var 0 rfl hx)) (ev_bot T.c_Quotient T.a_Quotient_bottom (ev_var 1 rfl hy)))
      (ev_mul (n := m) (m := n) hy.1.1 (CM.lt_den hx.1) (by simp; omega) (ev_top T.c_Quotient T.a_Quotient_top (ev_var 1 rfl hy)) (ev_bot T.c_Quotient T.a_Quotient_bottom (ev_var 0 rfl hx)))) fun v H1 s1 pv => k v H1 s1 ?_
  rw [show v = _ from pv]
  show V.bl _ = V.bl _
  congr 1
  exact decide_eq_decide.mpr (Rat.le_iff p q).symm
end
end Ly
set_option Elab.async false
set_option linter.all false
set_option maxRecDepth 100000
set_option maxHeartbeats 4000000
/-! ==, isinstance; short rules for quotients; whole, zero, one; vectors. -/
namespace Ly
open PySem PySem.Spec PyProof.Rows L2
section
variable {R : Hp → Hp → Prop} {X : Cx} {σ : SS} {H H' : Hp} {P P' Pa Pb Pc : HF} {D : Ends} [Rel R] {e a b c : Expr} {es : List Expr} {pos p apos : Pos} {C : Addr} {n m : Nat} {q r : Rat} {x : Str}
theorem ev_glob {v : V} {u : Value} (hm : X.mg x = some u) (rv : RelV v u) (hg : Gl X x := by rfl) (hd : (x == ("__debug__" : Str)) = false := by decide) : EV R X (.Name x pos) σ H (isV v) := fun H1 r Q k => RE.of (pe_glob hg hm rv hd) (k _ _ (Rel.rf _) rfl)
theorem ev_bltn {v : V} {u : Value} (hm : X.mg x = none) (hv : bootBuiltins x = some u) (rv : RelV v u) (hg : Gl X x := by rfl) (hn : x ≠ "__name__" := by decide) (hd : (x == ("__debug__" : Str)) = false := by decide) : EV R X (.Name x pos) σ H (isV v) := fun H1 r Q k => RE.of (pe_bltn hg hm hv rv hn hd) (k _ _ (Rel.rf _) rfl)
theorem tyQ {K : PySem.W.Frag} {mg : Str → Option Value} (T : Tx K mg) {v : V} (h : isQ (cQ K) n q v H) : TyX K H v (.ref (cQ K)) := by
  obtain ⟨_, a, dx, rfl, ha⟩ := h
  exact .base (.ins ha T.c_Quotient T.xf.ca T.xf.cn T.xf.ct T.xf.cm)
/-- isinstance(e, Quotient) of a quotient -/
theorem ev_isQ (T : Tx X.K X.mg) (ha : EV R X e σ H (isQ (cQ X.K) n q)) (hg : Gl X "isinstance" := by rfl) (hg2 : Gl X "Quotient" := by rfl)
    (he : starEach [e, .Name "Quotient" p] X.env = (false, eval e X.env) :: starEach [.Name "Quotient" p] X.env := by rfl) (he2 : starEach [.Name "Quotient" p] X.env = (false, eval (.Name "Quotient" p) X.env) :: starEach [] X.env := by rfl) (hpl : (backTo pos (starEach [.Name "Quotient" p] X.env)).any (·.1) = false := by rfl) :
    EV R X (.Call (.Name "isinstance" apos) [e, .Name "Quotient" p] [] pos) σ H (isB true) :=
  ev_b1 call_isi T.n_isinstance (by decide +kernel) (ea_cons ha (ea_cons (ev_glob (v := .ref (cQ X.K)) T.g_Quotient rfl hg2) ea_nil he2) he) (fun vs H1 r fit Q k => by
    obtain ⟨x, y, rfl, hx, hy⟩ := fit2 fit
    cases hy
    exact ⟨x, _, _, _, true, rfl, .own _, tyQ T hx, T.xf.kq, k _ _ (Rel.rf _) rfl⟩) hg (by decide) (by decide) he hpl
/-- isinstance(e, int), (e, bool) of an int; (e, tuple) of a tuple -/
theorem ev_isTy {t : String} {s : Value} {bb : Bool} {tn : Str} (T : Tx X.K X.mg) (ha : EV R X e σ H P) [Mo R P] (hm : X.mg tn = none) (hv : bootBuiltins tn = some (.type t)) (hty : ∀ v H1, P v H1 → TyX X.K H1 v s) (hk : PySem.W.kitOne X.K s (.type t) = some bb) (hg : Gl X "isinstance" := by rfl) (hg2 : Gl X tn := by rfl) (hn : tn ≠ "__name__" := by decide) (hd : (tn == ("__debug__" : Str)) = false := by decide)
    (he : starEach [e, .Name tn p] X.env = (false, eval e X.env) :: starEach [.Name tn p] X.env := by rfl) (he2 : starEach [.Name tn p] X.env = (false, eval (.Name tn p) X.env) :: starEach [] X.env := by rfl) (hpl : (backTo pos (starEach [.Name tn p] X.env)).any (·.1) = false := by rfl) :
    EV R X (.Call (.Name "isinstance" apos) [e, .Name tn p] [] pos) σ H (isB bb) :=
  ev_b1 call_isi T.n_isinstance (by decide +kernel) (ea_cons ha (ea_cons (ev_bltn (v := .ty t) hm hv rfl hg2 hn hd) ea_nil he2) he) (fun vs H1 r fit Q k => by
    obtain ⟨x, y, rfl, hx, hy⟩ := fit2 fit
    cases hy
    exact ⟨x, _, _, _, bb, rfl, .ty _, hty x H1 hx, hk, k _ _ (Rel.rf _) rfl⟩) hg (by decide) (by decide) he hpl
/-! the operators in short -/
theorem ev_qadd (T : Tx X.K X.mg) (hr : Room 4 X.A) (ha : EV R X a σ H (isQ (cQ X.K) n q)) (hb : EV R X b σ H (isQ (cQ X.K) m r)) (hc : n + m + 1 ≤ 8000 := by omega) : EV R X (.BinOp a .Add b pos) σ H (isQ (cQ X.K) (n + m + 1) (q + r)) :=
  ev_own (op := .Add) (ok_add (Pg := X.prog) (w := X.w) (base := X.base) T) hr T.xf.sf ((n, q), (m, r)) hc rfl (fun _ _ h => h.ins) (fun _ _ h => h.ins) ha hb
theorem ev_qsub (T : Tx X.K X.mg) (hr : Room 4 X.A) (ha : EV R X a σ H (isQ (cQ X.K) n q)) (hb : EV R X b σ H (isQ (cQ X.K) m r)) (hc : n + m + 1 ≤ 8000 := by omega) : EV R X (.BinOp a .Sub b pos) σ H (isQ (cQ X.K) (n + m + 1) (q - r)) :=
  ev_own (op := .Sub) (ok_sub (Pg := X.prog) (w := X.w) (base := X.base) T) hr T.xf.sf ((n, q), (m, r)) hc rfl (fun _ _ h => h.ins) (fun _ _ h => h.ins) ha hb
theorem ev_qmul (T : Tx X.K X.mg) (hr : Room 4 X.A) (ha : EV R X a σ H (isQ (cQ X.K) n q)) (hb : EV R X b σ H (isQ (cQ X.K) m r)) (hc : n + m + 1 ≤ 8000 := by omega) : EV R X (.BinOp a .Mult b pos) σ H (isQ (cQ X.K) (n + m) (q * r)) :=
  ev_own (op := .Mult) (ok_mul (Pg := X.prog) (w := X.w) (base := X.base) T) hr T.xf.sf ((n, q), (m, r)) hc rfl (fun _ _ h => h.ins) (fun _ _ h => h.ins) ha hb
theorem ev_qlt (T : Tx X.K X.mg) (hr : Room 1 X.A) (ha : EV R X a σ H (isQ (cQ X.K) n q)) (hb : EV R X b σ H (isQ (cQ X.K) m r)) (hc : n + m + 1 ≤ 8000 := by omega) (hm : behindInMarks .Lt b = false := by exact nomark _) : EV R X (.Compare a [.Lt] [b] pos) σ H (isB (decide (q < r))) :=
  ev_ownC (op := .Lt) (fun _ _ => rfl) (ok_lt (Pg := X.prog) (w := X.w) (base := X.base) T) hr ((n, q), (m, r)) hc rfl (fun _ _ h => h.ins) (fun _ _ h => h.ins) ha hb hm
theorem ev_qle (T : Tx X.K X.mg) (hr : Room 1 X.A) (ha : EV R X a σ H (isQ (cQ X.K) n q)) (hb : EV R X b σ H (isQ (cQ X.K) m r)) (hc : n + m + 1 ≤ 8000 := by omega) (hm : behindInMarks .LtE b = false := by exact nomark _) : EV R X (.Compare a [.LtE] [b] pos) σ H (isB (decide (q ≤ r))) :=
  ev_ownC (op := .LtE) (fun _ _ => rfl) (ok_le (Pg := X.prog) (w := X.w) (base := X.base) T) hr ((n, q), (m, r)) hc rfl (fun _ _ h => h.ins) (fun _ _ h => h.ins) ha hb hm
theorem et_qlt (T : Tx X.K X.mg) (hr : Room 1 X.A) (ha : EV R X a σ H (isQ (cQ X.K) n q)) (hb : EV R X b σ H (isQ (cQ X.K) m r)) (hc : n + m + 1 ≤ 8000 := by omega) (hm : behindInMarks .Lt b = false := by exact nomark _) : ET R X (.Compare a [.Lt] [b] pos) σ H (· = decide (q < r)) :=
  et_ownC (op := .Lt) (fun _ _ => rfl) (ok_lt (Pg := X.prog) (w := X.w) (base := X.base) T) hr ((n, q), (m, r)) hc rfl (fun _ _ h => h.ins) (fun _ _ h => h.ins) ha hb hm
theorem et_qle (T : Tx X.K X.mg) (hr : Room 1 X.A) (ha : EV R X a σ H (isQ (cQ X.K) n q)) (hb : EV R X b σ H (isQ (cQ X.K) m r)) (hc : n + m + 1 ≤ 8000 := by omega) (hm : behindInMarks .LtE b = false := by exact nomark _) : ET R X (.Compare a [.LtE] [b] pos) σ H (· = decide (q ≤ r)) :=
  et_ownC (op := .LtE) (fun _ _ => rfl) (ok_le (Pg := X.prog) (w := X.w) (base := X.base) T) hr ((n, q), (m, r)) hc rfl (fun _ _ h => h.ins) (fun _ _ h => h.ins) ha hb hm
/-- q.over(r) -/
theorem ev_qover (T : Tx X.K X.mg) (hr : Room 4 X.A) (ha : EV R X a σ H (isQ (cQ X.K) n q)) (hb : EV R X b σ H (isQ (cQ X.K) m r)) (h0 : 0 < r) (hc : n + m + 1 ≤ 8000 := by omega) {pl : Sem Bool}
    (hst : starEach [b] X.env = (false, eval b X.env) :: starEach [] X.env := by rfl) (hpl : (backTo pos (starEach [] X.env)).any (·.1) = false := by rfl)
    (ht : eval (.Call (.Attribute a "over" apos) [b] [] pos) X.env = (do
      let ov ← eval a X.env
      standAt apos.atName
      let (f, first) ← holding [ov] (getMethod ov "over" pl)
      callWith pos f first (backTo pos (starEach [b] X.env)) (backToKw pos (keywordEach [] X.env))) := by rfl) : EV R X (.Call (.Attribute a "over" apos) [b] [] pos) σ H (isQ (cQ X.K) (n + m) (q / r)) := by
  obtain ⟨g, fd, ps, M, F, hB⟩ := (ok_over (Pg := X.prog) (w := X.w) (base := X.base) T).ex
  refine EV.by (pe_meth pe_re T.c_Quotient M F hr hB .nil pass0 (pa_cons pe_re pa_nil hst) hst hpl ht) fun H1 r1 Q k => ha H1 r1 _ fun x H2 r2 px => ?_
  obtain ⟨bx, u, du, rfl, hu⟩ := px
  refine ⟨u, du, _, rfl, hu, qf_no q (by decide +kernel) (by decide +kernel), hb H2 (Rel.tr r1 r2) _ fun y H3 r3 py => ?_⟩
  refine ⟨((n, q), (m, r)), ⟨_, _, rfl, ⟨bx, u, du, rfl, Rel.nl r3 hu nl_ins⟩, _, _, rfl, py, rfl⟩, ⟨hc, h0⟩, fun v H4 s4 pv => k v H4 (Rel.tr r2 (Rel.tr r3 (Rel.sm s4))) pv⟩
end
/-! ### the defs -/
section
variable {Pg : Program} {w : World} {K : PySem.W.Frag} {mg : Str → Option Value} {base : Heap}
theorem scQeq : FnScope ["self", "other"] ["self", "other"] (defScope sQuotienteq) := ⟨rfl, rfl, rfl, by decide +kernel, rfl, by decide +kernel, by decide +kernel⟩
/-- what == is asked of here: two quotients of one value -/
def sameQ (C : Addr) (a b : Addr) (H : Hp) : Prop := ∃ n q, isQ C n q (.ref a) H ∧ isQ C n q (.ref b) H
theorem ok_eq (T : Tx K mg) : ∃ g fd ps, Meth K (cQ K) "__eq__" g ∧ FnOk Pg w K mg base CX0 1 g fd ps (spEq (sameQ (cQ K))) ∧ Binds K fd ps [] := by
  obtain ⟨fd, F⟩ := T.d_Quotient_eq
  refine ⟨_, fd, ["self", "other"], T.m_Quotient_eq, F.ok scQeq (fun vs H Q E h => ?_) (fun cdv A outer s H vs Q E hr h => ⟨_, pss_rs, ?_⟩), F.binds fun _ _ _ _ _ _ us hl => match us, hl with | [_, _], _ => rfl⟩
  · obtain ⟨a, b, rfl, _⟩ := h
    rfl
  · obtain ⟨a, b, rfl, ⟨n, q, hx, hy⟩, k⟩ := h
    refine b_ret (R := Same) (ev_and (ev_isQ T (ev_var 1 rfl hy)) fun _ => ev_and (ev_eq (ev_top T.c_Quotient T.a_Quotient_top (ev_var 0 rfl hx)) (ev_top T.c_Quotient T.a_Quotient_top (ev_var 1 rfl hy))) fun _ => ev_one (ev_eq (ev_bot T.c_Quotient T.a_Quotient_bottom (ev_var 0 rfl hx)) (ev_bot T.c_Quotient T.a_Quotient_bottom (ev_var 1 rfl hy)))) fun v H1 s1 pv => ?_
    have e : v = .bl true := by
      rw [show v = _ from pv]
      simp
    rw [e]
    exact k H1 s1
theorem scWhole : FnScope ["number"] ["number"] (defScope swhole) := ⟨rfl, rfl, rfl, by decide +kernel, rfl, by decide +kernel, by decide +kernel⟩
theorem scZero : FnScope [] [] (defScope szero) := ⟨rfl, rfl, rfl, by decide +kernel, rfl, by decide +kernel, by decide +kernel⟩
theorem scOne : FnScope [] [] (defScope sone) := ⟨rfl, rfl, rfl, by decide +kernel, rfl, by decide +kernel, by decide +kernel⟩
theorem scIsq : FnScope ["value"] ["value"] (defScope sis_quotient) := ⟨rfl, rfl, rfl, by decide +kernel, rfl, by decide +kernel, by decide +kernel⟩
theorem ok_whole (T : Tx K mg) : DefOk Pg w K mg base "whole" 4 (spF (fun z : Nat × Int => [isI z.2]) (fun z => z.2.natAbs < 2 ^ z.1 ∧ 0 < z.1 ∧ z.1 ≤ 8000) fun z => isQ (cQ K) z.1 (z.2 : Rat)) := by
  refine mkDef T.g_whole T.k_whole T.d_whole scWhole (fun _ => rfl) (fun _ _ _ _ _ _ us hl => match us, hl with | [_], _ => rfl) fun cdv A outer s H vs Q E z hr fit hc k => ?_
  obtain ⟨n, t⟩ := z
  obtain ⟨h1, h2, h3⟩ := hc
  have h2 : 0 < n := h2
  obtain ⟨_, rfl, rfl⟩ := fit1 fit
  refine b_ret (R := Same) (ev_quot (n := n) (ok_QI T) hr (by decide) h1 (Nat.one_lt_two_pow (by omega)) h2 h3 (ea_cons (ev_vv 0 rfl) (ea_cons ev_int ea_nil))) fun v H1 s1 pv => k v H1 s1 ?_
  rw [CM.q_int] at pv
  exact pv
theorem ok_zero (T : Tx K mg) : DefOk Pg w K mg base "zero" 4 (spF (fun _ : Unit => []) (fun _ => True) fun z => isQ (cQ K) 1 0) := by
  refine mkDef T.g_zero T.k_zero T.d_zero scZero (fun _ => rfl) (fun _ _ _ _ _ _ us hl => match us, hl with | [], _ => rfl) fun cdv A outer s H vs Q E z hr fit hc k => ?_
  cases (show vs = [] from fit)
  refine b_ret (R := Same) (ev_quot (n := 1) (ok_QI T) hr (by decide) (by decide) (by decide) (by decide) (by decide) (ea_cons ev_int (ea_cons ev_int ea_nil))) fun v H1 s1 pv => k v H1 s1 ?_
  rw [CM.q_int] at pv
  exact pv
theorem ok_one (T : Tx K mg) : DefOk Pg w K mg base "one" 4 (spF (fun _ : Unit => []) (fun _ => True) fun z => isQ (cQ K) 1 1) := by
  refine mkDef T.g_one T.k_one T.d_one scOne (fun _ => rfl) (fun _ _ _ _ _ _ us hl => match us, hl with | [], _ => rfl) fun cdv A outer s H vs Q E z hr fit hc k => ?_
  cases (show vs = [] from fit)
  refine b_ret (R := Same) (ev_quot (n := 1) (ok_QI T) hr (by decide) (by decide) (by decide) (by decide) (by decide) (ea_cons ev_int (ea_cons ev_int ea_nil))) fun v H1 s1 pv => k v H1 s1 ?_
  rw [CM.q_int] at pv
  exact pv
theorem ok_isq (T : Tx K mg) : DefOk Pg w K mg base "is_quotient" 1 (spF (fun z : Nat × Rat => [isQ (cQ K) z.1 z.2]) (fun _ => True) fun z => isB true) := by
  refine mkDef T.g_is_quotient T.k_is_quotient T.d_is_quotient scIsq (fun _ => rfl) (fun _ _ _ _ _ _ us hl => match us, hl with | [_], _ => rfl) fun cdv A outer s H vs Q E z hr fit hc k => ?_
  obtain ⟨n, q⟩ := z
  obtain ⟨x, rfl, hx⟩ := fit1 fit
  have hx : isQ (cQ K) n q x H := hx
  exact b_ret (R := Same) (ev_isQ T (ev_var 0 rfl hx)) fun v H1 s1 pv => k v H1 s1 pv
end
section
variable {R : Hp → Hp → Prop} {X : Cx} {σ : SS} {H H' : Hp} [Rel R] {pos p : Pos}
theorem ev_zero (T : Tx X.K X.mg) (hr : Room 4 X.A) (hg : Gl X "zero" := by rfl) : EV R X (.Call (.Name "zero" p) [] [] pos) σ H (isQ (cQ X.K) 1 0) := ev_call0 (ok_zero (Pg := X.prog) (w := X.w) (base := X.base) T) hr () trivial rfl hg (by decide)
theorem ev_oneQ (T : Tx X.K X.mg) (hr : Room 4 X.A) (hg : Gl X "one" := by rfl) : EV R X (.Call (.Name "one" p) [] [] pos) σ H (isQ (cQ X.K) 1 1) := ev_call0 (ok_one (Pg := X.prog) (w := X.w) (base := X.base) T) hr () trivial rfl hg (by decide)
end
end Ly
/-! Plain mathematics: vectors, Euclid's steps. -/
namespace CM
set_option maxHeartbeats 4000000
structure V3 where
  x : Rat
  y : Rat
  z : Rat
  deriving Inhabited
def det3 (a b c : V3) : Rat := a.x * (b.y * c.z - b.z * c.y) - a.y * (b.x * c.z - b.z * c.x) + a.z * (b.x * c.y - b.y * c.x)
def V3.zero : V3 := ⟨0, 0, 0⟩
def V3.scale (f : Rat) (v : V3) : V3 := ⟨f * v.x, f * v.y, f * v.z⟩
def V3.add (u v : V3) : V3 := ⟨u.x + v.x, u.y + v.y, u.z + v.z⟩
def vsum (l : List V3) : V3 := l.foldl V3.add V3.zero
def V3.l (v : V3) : List Rat := [v.x, v.y, v.z]
/-! ### Euclid, six hundred steps -/
def estep (p : Nat × Nat) : Nat × Nat := if 0 < p.2 then (p.2, p.1 % p.2) else p
def eit : Nat → Nat × Nat → Nat × Nat
  | 0, p => p
  | n + 1, p => estep (eit n p)
theorem eit_succ' : ∀ (n : Nat) (p : Nat × Nat), eit (n + 1) p = eit n (estep p)
  | 0, _ => rfl
  | n + 1, p => by
    show estep (eit (n + 1) p) = estep (eit n (estep p))
    rw [eit_succ' n p]
theorem estep_gcd (p : Nat × Nat) : Nat.gcd (estep p).1 (estep p).2 = Nat.gcd p.1 p.2 := by
  unfold estep
  split
  · show Nat.gcd p.2 (p.1 % p.2) = _
    rw [Nat.gcd_comm p.2, ← Nat.gcd_rec, Nat.gcd_comm]
  · rfl
theorem eit_gcd : ∀ (n : Nat) (p : Nat × Nat), Nat.gcd (eit n p).1 (eit n p).2 = Nat.gcd p.1 p.2
  | 0, _ => rfl
  | n + 1, p => by
    show Nat.gcd (estep (eit n p)).1 (estep (eit n p)).2 = _
    rw [estep_gcd, eit_gcd n p]
def fb : Nat → Nat
  | 0 => 1
  | 1 => 2
  | n + 2 => fb (n + 1) + fb n
def fbp : Nat → Nat × Nat
  | 0 => (1, 2)
  | n + 1 => match fbp n with
    | (a, b) => (b, b + a)
theorem fbp_eq : ∀ n, fbp n = (fb n, fb (n + 1))
  | 0 => rfl
  | n + 1 => by
    show (match fbp n with | (a, b) => (b, b + a)) = _
    rw [fbp_eq n]
    rfl
theorem eit_zero : ∀ (n a : Nat), (eit n (a, 0)).2 = 0
  | 0, _ => rfl
  | n + 1, a => by
    rw [eit_succ']
    have e : estep (a, 0) = (a, 0) := rfl
    rw [e]
    exact eit_zero n a
theorem eit_end : ∀ (n a b : Nat), b < a → b < fb n → (eit n (a, b)).2 = 0
  | 0, a, b, _, h => by
    have : b < 1 := h
    show b = 0
    omega
  | 1, a, b, _, h => by
    have h : b < 2 := h
    show (estep (a, b)).2 = 0
    unfold estep
    split
    · rename_i h0
      have h0 : 0 < b := h0
      have e : b = 1 := by omega
      subst e
      show a % 1 = 0
      omega
    · rename_i h0
      show b = 0
      have h0 : ¬ 0 < b := h0
      omega
  | n + 2, a, b, hab, h => by
    have h : b < fb (n + 1) + fb n := h
    rw [eit_succ']
    by_cases h0 : 0 < b
    · have e : estep (a, b) = (b, a % b) := by unfold estep; rw [if_pos h0]
      rw [e]
      have hr : a % b < b := Nat.mod_lt _ h0
      by_cases h1 : a % b < fb (n + 1)
      · exact eit_end (n + 1) b (a % b) hr h1
      · rw [eit_succ']
        by_cases h2 : 0 < a % b
        · have e2 : estep (b, a % b) = (a % b, b % (a % b)) := by unfold estep; rw [if_pos h2]
          rw [e2]
          have hr2 : b % (a % b) < a % b := Nat.mod_lt _ h2
          have h3 : b % (a % b) ≤ b - a % b := by
            have := Nat.mod_eq_sub_mod (Nat.le_of_lt hr)
            rw [this]
            exact Nat.mod_le _ _
          exact eit_end n (a % b) (b % (a % b)) hr2 (by omega)
        · have e2 : a % b = 0 := by omega
          rw [e2]
          have e3 : estep (b, 0) = (b, 0) := rfl
          rw [e3]
          exact eit_zero n b
    · have e : b = 0 := by omega
      subst e
      have e2 : estep (a, 0) = (a, 0) := rfl
      rw [e2]
      exact eit_zero (n + 1) a
theorem fb599 : 2 ^ 410 ≤ fb 599 := by
  have h : (fbp 599).1 = fb 599 := by rw [fbp_eq]
  rw [← h]
  decide +kernel
theorem eit600 (a b : Nat) (hb : b < 2 ^ 410) : (eit 600 (a, b)).2 = 0 := by
  rw [eit_succ']
  by_cases h0 : 0 < b
  · have e : estep (a, b) = (b, a % b) := by unfold estep; rw [if_pos h0]
    rw [e]
    have hr : a % b < b := Nat.mod_lt _ h0
    have := fb599
    exact eit_end 599 b (a % b) hr (by omega)
  · have e : b = 0 := by omega
    subst e
    have e2 : estep (a, 0) = (a, 0) := rfl
    rw [e2]
    exact eit_zero 599 a
theorem eit600_gcd (a b : Nat) (hb : b < 2 ^ 410) : (eit 600 (a, b)).1 = Nat.gcd a b := by
  have h := eit_gcd 600 (a, b)
  rw [eit600 a b hb, Nat.gcd_zero_right] at h
  exact h
end CM
set_option Elab.async false
set_option linter.all false
set_option maxRecDepth 100000
set_option maxHeartbeats 4000000
/-! The vectors. -/
namespace Ly
open PySem PySem.Spec PyProof.Rows L2
/-- a tuple of one kind of things -/
theorem ev_tupU {R : Hp → Hp → Prop} {X : Cx} {σ : SS} {H : Hp} [Rel R] {es : List Expr} {n : Nat} {pos : Pos} {α : Type} {F : α → HF} {as : List α} (h : EA R X es σ H (as.map F)) (hF : ∀ a, Mo Same (F a)) (hl : decide (as.length ≤ 1000) = true := by rfl) : EV R X (.Tuple es n pos) σ H (tupOf F as) :=
  EV.by (pe_tup pa_ra) fun H1 r Q k => h H1 r _ fun vs H2 r2 f => ⟨Nat.le_trans (by rw [f.len, List.length_map]; exact of_decide_eq_true hl) (by decide), fun p hp => by
    refine k _ _ (Rel.tr r2 (Rel.sm (smn hp))) ⟨p, vs, rfl, upd_same, by rw [f.len, List.length_map], fun i x a h1 h2 => ?_⟩
    have z := f.all2.2 i x (F a) h1 (by rw [List.getElem?_map, h2]; rfl)
    exact (hF a).mo (smn hp) z⟩
theorem ev_lstU {R : Hp → Hp → Prop} {X : Cx} {σ : SS} {H : Hp} [Rel R] {es : List Expr} {pos : Pos} {α : Type} {F : α → HF} {as : List α} (h : EA R X es σ H (as.map F)) (hF : ∀ a, Mo Same (F a)) (hl : decide (as.length ≤ 1000) = true := by rfl) : EV R X (.List es pos) σ H (lstOf F as) :=
  EV.by (pe_lst pa_ra) fun H1 r Q k => h H1 r _ fun vs H2 r2 f => ⟨Nat.le_trans (by rw [f.len, List.length_map]; exact of_decide_eq_true hl) (by decide), fun p hp => by
    refine k _ _ (Rel.tr r2 (Rel.sm (smn hp))) ⟨p, vs, rfl, upd_same, by rw [f.len, List.length_map], fun i x a h1 h2 => ?_⟩
    have z := f.all2.2 i x (F a) h1 (by rw [List.getElem?_map, h2]; rfl)
    exact (hF a).mo (smn hp) z⟩
abbrev isVec (C : Addr) (n : Nat) (p : CM.V3) : HF := tupOf (isQ C n) [p.x, p.y, p.z]
section
variable {Pg : Program} {w : World} {K : PySem.W.Frag} {mg : Str → Option Value} {base : Heap}
theorem scBlack : FnScope [] [] (defScope sblack) := ⟨rfl, rfl, rfl, by decide +kernel, rfl, by decide +kernel, by decide +kernel⟩
theorem scDet : FnScope ["first", "second", "third", "found"] ["first", "second", "third"] (defScope sdet) := ⟨rfl, rfl, rfl, by decide +kernel, rfl, by decide +kernel, by decide +kernel⟩
theorem ok_black (T : Tx K mg) : DefOk Pg w K mg base "black" 5 (spF (fun _ : Unit => []) (fun _ => True) fun z => isVec (cQ K) 1 CM.V3.zero) := by
  refine mkDef T.g_black T.k_black T.d_black scBlack (fun _ => rfl) (fun _ _ _ _ _ _ us hl => match us, hl with | [], _ => rfl) fun cdv A outer s H vs Q E z hr fit hc k => ?_
  cases (show vs = [] from fit)
  exact b_ret (R := Same) (ev_tupU (F := isQ (cQ K) 1) (as := [0, 0, 0]) (ea_cons (ev_zero T hr) (ea_cons (ev_zero T hr) (ea_cons (ev_zero T hr) ea_nil))) (fun _ => inferInstance)) fun v H1 s1 pv => k v H1 s1 pv
abbrev D3 : Type := Nat × CM.V3 × CM.V3 × CM.V3
theorem ok_det (T : Tx K mg) : DefOk Pg w K mg base "det" 5 (spF (fun z : D3 => [isVec (cQ K) z.1 z.2.1, isVec (cQ K) z.1 z.2.2.1, isVec (cQ K) z.1 z.2.2.2]) (fun z => z.1 ≤ 400) fun z => isQ (cQ K) (15 * z.1 + 5) (CM.det3 z.2.1 z.2.2.1 z.2.2.2)) := by
  refine mkDef T.g_det T.k_det T.d_det scDet (fun _ => rfl) (fun _ _ _ _ _ _ us hl => match us, hl with | [_, _, _], _ => rfl) fun cdv A outer s H vs Q E z hr fit hc k => ?_
  obtain ⟨n, a, b, c⟩ := z
  have hc : n ≤ 400 := hc
  obtain ⟨x, y, z, rfl, hx, hy, hz⟩ := fit3 fit
  have hx : isVec (cQ K) n a x H := hx
  have hy : isVec (cQ K) n b y H := hy
  have hz : isVec (cQ K) n c z H := hz
  refine b_set (R := Same) 3 (ev_qmul T hr (ev_ixT (ev_var 0 rfl hx) ev_int) (ev_qsub T hr (ev_qmul T hr (ev_ixT (ev_var 1 rfl hy) ev_int) (ev_ixT (ev_var 2 rfl hz) ev_int)) (ev_qmul T hr (ev_ixT (ev_var 1 rfl hy) ev_int) (ev_ixT (ev_var 2 rfl hz) ev_int)))) (fun v H1 s1 pv => ?_) scDet.nd
  have hx := Mo.mo (R := Same) s1 hx
  have hy := Mo.mo (R := Same) s1 hy
  have hz := Mo.mo (R := Same) s1 hz
  refine b_set (R := Same) 3 (ev_qsub T hr (ev_var 3 rfl pv) (ev_qmul T hr (ev_ixT (ev_var 0 rfl hx) ev_int) (ev_qsub T hr (ev_qmul T hr (ev_ixT (ev_var 1 rfl hy) ev_int) (ev_ixT (ev_var 2 rfl hz) ev_int)) (ev_qmul T hr (ev_ixT (ev_var 1 rfl hy) ev_int) (ev_ixT (ev_var 2 rfl hz) ev_int))))) (fun v H2 s2 pv => ?_) scDet.nd
  have hx := Mo.mo (R := Same) s2 hx
  have hy := Mo.mo (R := Same) s2 hy
  have hz := Mo.mo (R := Same) s2 hz
  refine b_ret (R := Same) (ev_qadd T hr (ev_var 3 rfl pv) (ev_qmul T hr (ev_ixT (ev_var 0 rfl hx) ev_int) (ev_qsub T hr (ev_qmul T hr (ev_ixT (ev_var 1 rfl hy) ev_int) (ev_ixT (ev_var 2 rfl hz) ev_int)) (ev_qmul T hr (ev_ixT (ev_var 1 rfl hy) ev_int) (ev_ixT (ev_var 2 rfl hz) ev_int))))) fun v H3 s3 pv => k v H3 ((s1.trans s2).trans s3) ?_
  exact pv.up (by show _ ≤ 15 * n + 5; omega)
end
end Ly
set_option Elab.async false
set_option linter.all false
set_option maxRecDepth 100000
set_option maxHeartbeats 4000000
/-! scaled, added, sum_of. -/
namespace Ly
open PySem PySem.Spec PyProof.Rows L2
section
variable {Pg : Program} {w : World} {K : PySem.W.Frag} {mg : Str → Option Value} {base : Heap}
abbrev nScaled : List Str := ["factor", "vector", "value"]
theorem scScaled : FnScope nScaled ["factor", "vector"] (defScope sscaled) := ⟨rfl, rfl, rfl, by decide +kernel, rfl, by decide +kernel, by decide +kernel⟩
theorem moN {C : Addr} {n : Nat} (q : Rat) : Mo Nl (isQ C n q) := inferInstance
theorem ok_scaled (T : Tx K mg) : DefOk Pg w K mg base "scaled" 5 (spF (fun z : (Nat × Rat) × Nat × CM.V3 => [isQ (cQ K) z.1.1 z.1.2, isVec (cQ K) z.2.1 z.2.2]) (fun z => z.1.1 + z.2.1 + 1 ≤ 8000) fun z => isVec (cQ K) (z.1.1 + z.2.1) (CM.V3.scale z.1.2 z.2.2)) := by
  refine mkDef T.g_scaled T.k_scaled T.d_scaled scScaled (fun _ => rfl) (fun _ _ _ _ _ _ us hl => match us, hl with | [_, _], _ => rfl) fun cdv A outer s H vs Q E z hr fit hc k => ?_
  obtain ⟨⟨n, f⟩, m, v⟩ := z
  have hc : n + m + 1 ≤ 8000 := hc
  obtain ⟨x, y, rfl, hx, hy⟩ := fit2 fit
  have hx : isQ (cQ K) n f x H := hx
  have hy : isVec (cQ K) m v y H := hy
  refine b_ret (R := Same) (ev_tupleOf T.n_tuple (lc_T 2 (own := [("value", 2)]) (tt := tYes) (F := isQ (cQ K) m) (G := isQ (cQ K) (n + m)) (fun _ => true) (fun q => f * q) moN (fun _ => inferInstance) (by show 3 ≤ 1000000; decide) (ev_var 1 rfl hy) (fun _ _ _ _ _ _ K k => tt_yes (f := fun _ => true) (i := 0) rfl k)
    (fun q u H2 _ _ s2 hu => fun s0 H0 C cl fp => ev_qmul T hr (ev_var 0 rfl (Mo.mo (R := Same) s2 hx)) (ev_var 2 rfl hu))
    scScaled.nd (fun _ _ _ _ _ => pts_nil) (blkOk_by (N := nScaled) (sc := defScope sscaled) (by decide +kernel)) (by decide) (fun _ _ _ _ _ => pg_name (i := 2) scScaled.nd rfl (Or.inl rfl))) (fun _ => inferInstance)) fun u H1 s1 pv => k u H1 s1 pv
abbrev nAdded : List Str := ["first", "second", "left", "right"]
theorem scAdded : FnScope nAdded ["first", "second"] (defScope sadded) := ⟨rfl, rfl, rfl, by decide +kernel, rfl, by decide +kernel, by decide +kernel⟩
theorem ok_added (T : Tx K mg) : DefOk Pg w K mg base "added" 5 (spF (fun z : (Nat × CM.V3) × Nat × CM.V3 => [isVec (cQ K) z.1.1 z.1.2, isVec (cQ K) z.2.1 z.2.2]) (fun z => z.1.1 + z.2.1 + 1 ≤ 8000) fun z => isVec (cQ K) (z.1.1 + z.2.1 + 1) (CM.V3.add z.1.2 z.2.2)) := by
  refine mkDef T.g_added T.k_added T.d_added scAdded (fun _ => rfl) (fun _ _ _ _ _ _ us hl => match us, hl with | [_, _], _ => rfl) fun cdv A outer s H vs Q E z hr fit hc k => ?_
  obtain ⟨⟨n, u⟩, m, v⟩ := z
  have hc : n + m + 1 ≤ 8000 := hc
  obtain ⟨x, y, rfl, hx, hy⟩ := fit2 fit
  have hx : isVec (cQ K) n u x H := hx
  have hy : isVec (cQ K) m v y H := hy
  refine b_ret (R := Same) (ev_tupleOf T.n_tuple (lc_Z 2 3 (own := [("left", 2), ("right", 3)]) (F1 := isQ (cQ K) n) (F2 := isQ (cQ K) m) (G := isQ (cQ K) (n + m + 1)) (fun p q => p + q) moN (fun _ => inferInstance) (as := [u.x, u.y, u.z]) (bs := [v.x, v.y, v.z]) (fun _ => inferInstance) (by show 3 ≤ 1000000; decide) rfl T.n_zip (ea_cons (ev_var 0 rfl hx) (ea_cons (ev_var 1 rfl hy) ea_nil))
    (fun i p q a b H2 _ _ s2 ha hb => fun s0 H0 C cl fp => ev_qadd T hr (ev_var 2 rfl ha) (ev_var 3 rfl hb))
    scAdded.nd (blkOk_by (N := nAdded) (sc := defScope sadded) (by decide +kernel)) (by decide) (by decide) (fun _ _ _ _ _ => pg_tup rfl (pgs_cons (pg_name (i := 2) scAdded.nd rfl (Or.inl rfl)) (pgs_cons (pg_name (i := 3) scAdded.nd rfl (Or.inl rfl)) pgs_nil)))) (fun _ => inferInstance)) fun u H1 s1 pv => k u H1 s1 pv
abbrev nSum : List Str := ["vectors", "found", "vector"]
theorem scSum : FnScope nSum ["vectors"] (defScope ssum_of) := ⟨rfl, rfl, rfl, by decide +kernel, rfl, by decide +kernel, by decide +kernel⟩
theorem ok_sum (T : Tx K mg) : DefOk Pg w K mg base "sum_of" 6 (spF (fun z : Nat × List CM.V3 => [lstOf (isVec (cQ K) z.1) z.2]) (fun z => 1 + z.2.length * (z.1 + 1) ≤ 8000) fun z => isVec (cQ K) (1 + z.2.length * (z.1 + 1)) (CM.vsum z.2)) := by
  refine mkDef T.g_sum_of T.k_sum_of T.d_sum_of scSum (fun _ => rfl) (fun _ _ _ _ _ _ us hl => match us, hl with | [_], _ => rfl) fun cdv A outer s H vs Q E z hr fit hc k => ?_
  obtain ⟨m, us⟩ := z
  have hc : 1 + us.length * (m + 1) ≤ 8000 := hc
  obtain ⟨_, rfl, p, xs, rfl, hp, q2⟩ := fit1 fit
  have hx : xs.length = us.length := q2.1
  refine b_set (R := Same) 1 (ev_call0 (ok_black T) hr () trivial rfl) (fun v H1 s1 pv => ?_) scSum.nd
  refine b_forL (R := Same) 2 (ev_vv 0 rfl) (fun v2 H2 s2 e => ⟨p, xs, fun i σ H2 => ∃ a b, σ = [some (.ref p), some a, b] ∧ isVec (cQ K) (1 + i * (m + 1)) ((us.take i).foldl CM.V3.add CM.V3.zero) a H2 ∧ Same H H2, e, s2 _ _ (s1 _ _ hp), ⟨v, none, rfl, ?_, s1.trans s2⟩, fun i σ1 H3 ⟨_, _, _, _, s3⟩ => s3 _ _ hp, fun i x σ H2 hi hW => ?_, fun σ H2 hW => ?_⟩) scSum.nd PassesOwn.never
  · show isVec (cQ K) (1 + 0 * (m + 1)) CM.V3.zero v H2
    rw [Nat.zero_mul]
    exact Mo.mo (R := Same) s2 pv
  · obtain ⟨a, b, rfl, ha, s2⟩ := hW
    obtain ⟨u, hu, fu⟩ := q2.get' hi
    have fu := Mo.mo (R := Same) s2 fu
    have hil : i < us.length := (List.getElem?_eq_some_iff.mp hu).1
    have hle : (i + 1) * (m + 1) ≤ us.length * (m + 1) := Nat.mul_le_mul_right _ hil
    have he : (i + 1) * (m + 1) = i * (m + 1) + (m + 1) := Nat.succ_mul i (m + 1)
    refine b_set (R := Same) 1 (ev_call (ok_added T) hr ((1 + i * (m + 1), (us.take i).foldl CM.V3.add CM.V3.zero), (m, u)) (by show 1 + i * (m + 1) + m + 1 ≤ 8000; omega) (ea_cons (ev_var 1 rfl ha) (ea_cons (ev_var 2 rfl fu) ea_nil))) (fun v H3 s3 pv => RSs.nil ?_) scSum.nd
    refine ⟨v, _, rfl, ?_, s2.trans s3⟩
    rw [List.take_add_one, hu]
    show isVec _ _ (List.foldl _ _ (us.take i ++ [u])) _ _
    rw [List.foldl_append]
    have e : 1 + (i + 1) * (m + 1) = 1 + i * (m + 1) + m + 1 := by omega
    rw [e]
    exact pv
  · obtain ⟨a, b, rfl, ha, s2⟩ := hW
    rw [hx, List.take_length] at ha
    exact b_ret (R := Same) (ev_var 1 rfl ha) fun v H3 s3 pv => k v H3 (s2.trans s3) pv
end
end Ly
set_option Elab.async false
set_option linter.all false
set_option maxRecDepth 100000
set_option maxHeartbeats 4000000
/-! Observers and views. -/
namespace Ly
open PySem PySem.Spec PyProof.Rows L2
section
variable {R : Hp → Hp → Prop} {X : Cx} {σ : SS} {H H' : Hp} {P P' Pa Pb Pc : HF} {D : Ends} [Rel R] {e a b c d : Expr} {es : List Expr} {pos p apos : Pos} {C : Addr} {n m : Nat} {q r : Rat} {x : Str}
/-- a < b < c of ints, as a value -/
theorem ev_chain {op op' : CmpOp} {g g' : Int → Int → Bool} {i j k : Int} (ho : OpR X (compareOp op) (rI0 fun i j => .bl (g i j))) (ho' : OpR X (compareOp op') (rI0 fun i j => .bl (g' i j))) (ha : EV R X a σ H (isI i)) (hb : EV R X b σ H (isI j)) (hc : EV R X c σ H (isI k)) (hm : lastMarks [op, op'] [b, c] = false := by with_unfolding_all rfl) : EV R X (.Compare a [op, op'] [b, c] pos) σ H (isB (g i j && g' j k)) :=
  EV.by (pe_chain ho ho' pe_re pe_re pe_re hm) fun H1 r Q q => two ha hb r fun x y H2 r2 px py => by
    cases px
    cases py
    refine ⟨i, j, rfl, rfl, g i j, rfl, ?_⟩
    cases h : g i j with
    | true =>
      rw [if_pos rfl]
      refine hc H2 (Rel.tr r r2) _ fun z H3 r3 pz => ?_
      cases pz
      refine ⟨j, k, rfl, rfl, q _ _ (Rel.tr r2 r3) ?_⟩
      show V.bl _ = V.bl (g i j && g' j k)
      rw [h]
      rfl
    | false =>
      rw [if_neg Bool.false_ne_true]
      refine q _ _ r2 ?_
      show V.bl false = V.bl (g i j && g' j k)
      rw [h]
      rfl
theorem et_chain {op op' : CmpOp} {g g' : Int → Int → Bool} {i j k : Int} (ho : OpR X (compareOp op) (rI0 fun i j => .bl (g i j))) (ho' : OpR X (compareOp op') (rI0 fun i j => .bl (g' i j))) (ha : EV R X a σ H (isI i)) (hb : EV R X b σ H (isI j)) (hc : EV R X c σ H (isI k)) (hm : lastMarks [op, op'] [b, c] = false := by with_unfolding_all rfl) : ET R X (.Compare a [op, op'] [b, c] pos) σ H (· = (g i j && g' j k)) :=
  ET.by (pt_chain ho ho' pe_re pe_re pe_re hm) fun H1 r Q q => two ha hb r fun x y H2 r2 px py => by
    cases px
    cases py
    refine ⟨i, j, rfl, rfl, g i j, rfl, ?_⟩
    cases h : g i j with
    | true =>
      rw [if_pos rfl]
      refine hc H2 (Rel.tr r r2) _ fun z H3 r3 pz => ?_
      cases pz
      exact ⟨j, k, rfl, rfl, g' j k, rfl, q _ _ (Rel.tr r2 r3) (by rw [h]; rfl)⟩
    | false =>
      rw [if_neg Bool.false_ne_true]
      exact ⟨false, rfl, q _ _ r2 (by rw [h]; rfl)⟩
theorem et_or2 (ha : ET R X a σ H (· = false)) (hb : ET R X b σ H (· = false)) : ET R X (.BoolOp .Or [a, b] pos) σ H (· = false) :=
  et_w (ew_or ha (fun _ => ew_or1 hb) (fun h => by cases h) (fun _ _ h => h))
theorem et_or3 (ha : ET R X a σ H (· = false)) (hb : ET R X b σ H (· = false)) (hc : ET R X c σ H (· = false)) : ET R X (.BoolOp .Or [a, b, c] pos) σ H (· = false) :=
  et_w (ew_or ha (fun _ => ew_or hb (fun _ => ew_or1 hc) (fun h => by cases h) (fun _ _ h => h)) (fun h => by cases h) (fun _ _ h => h))
theorem et_nt (ha : ET R X a σ H (· = true)) : ET R X (.UnaryOp .Not a pos) σ H (· = false) := (et_not ha).imp fun v h => by
  have h : (!v) = true := h
  show v = false
  simpa using h
theorem et_vt {bb : Bool} (h : EV R X e σ H (isB bb)) (hb : bb = true) (he : ∀ whole, isTrue e X.env whole = (do let v ← whole; standAt e.pos; holding [v] (truthy v)) := by intro _; rfl) : ET R X e σ H (· = true) := by
  subst hb
  exact et_val (ev_b h) he
theorem et_vb {bb : Bool} (h : EV R X e σ H (isB bb)) (he : ∀ whole, isTrue e X.env whole = (do let v ← whole; standAt e.pos; holding [v] (truthy v)) := by intro _; rfl) : ET R X e σ H (· = bb) := et_val (ev_b h) he
/-- a test of known answer -/
theorem et_is {u v : Bool} (h : ET R X e σ H (· = u)) (k : u = v) : ET R X e σ H (· = v) := by subst k; exact h
theorem tyT {K : PySem.W.Frag} {α : Type} {F : α → HF} {as : List α} {v : V} (h : tupOf F as v H) : TyX K H v (.type "tuple") := by
  obtain ⟨a, xs, rfl, ha, _⟩ := h
  exact .base (.tup ha)
theorem tyI {K : PySem.W.Frag} {i : Int} {v : V} (h : isI i v H) : TyX K H v (.type "int") := by
  cases h
  exact .base (.int i)
theorem ev_isTup {α : Type} {F : α → HF} {as : List α} (T : Tx X.K X.mg) (ha : EV R X e σ H (tupOf F as)) [Mo R (tupOf F as)] (hg : Gl X "isinstance" := by rfl) (hg2 : Gl X "tuple" := by rfl)
    (he : starEach [e, .Name "tuple" p] X.env = (false, eval e X.env) :: starEach [.Name "tuple" p] X.env := by rfl) (he2 : starEach [.Name "tuple" p] X.env = (false, eval (.Name "tuple" p) X.env) :: starEach [] X.env := by rfl) (hpl : (backTo pos (starEach [.Name "tuple" p] X.env)).any (·.1) = false := by rfl) :
    EV R X (.Call (.Name "isinstance" apos) [e, .Name "tuple" p] [] pos) σ H (isB true) :=
  ev_isTy (t := "tuple") T ha T.n_tuple (by decide +kernel) (fun v H1 h => tyT h) T.xf.kt hg hg2 (by decide) (by decide) he he2 hpl
end
structure I3 where
  x : Int
  y : Int
  z : Int
  deriving Inhabited
abbrev isBand (b : I3) : HF := tupOf isI [b.x, b.y, b.z]
def I3.ok (b : I3) : Prop := (0 ≤ b.x ∧ b.x ≤ 100) ∧ (0 ≤ b.y ∧ b.y ≤ 100) ∧ (0 ≤ b.z ∧ b.z ≤ 100)
def I3.v (b : I3) : CM.V3 := ⟨(b.x : Rat), (b.y : Rat), (b.z : Rat)⟩
section
variable {Pg : Program} {w : World} {K : PySem.W.Frag} {mg : Str → Option Value} {base : Heap}
theorem scNumber : FnScope ["value", "least", "most"] ["value", "least", "most"] (defScope sis_number) := ⟨rfl, rfl, rfl, by decide +kernel, rfl, by decide +kernel, by decide +kernel⟩
theorem ok_number (T : Tx K mg) : DefOk Pg w K mg base "is_number" 1 (spF (fun z : Int × Int × Int => [isI z.1, isI z.2.1, isI z.2.2]) (fun _ => True) fun z => isB (decide (z.2.1 ≤ z.1) && decide (z.1 ≤ z.2.2))) := by
  refine mkDef T.g_is_number T.k_is_number T.d_is_number scNumber (fun _ => rfl) (fun _ _ _ _ _ _ us hl => match us, hl with | [_, _, _], _ => rfl) fun cdv A outer s H vs Q E z hr fit hc k => ?_
  obtain ⟨v, l, m⟩ := z
  obtain ⟨_, _, _, rfl, rfl, rfl, rfl⟩ := fit3 fit
  refine b_ret (R := Same) (ev_and (ev_isTy (t := "int") T (ev_vv 0 rfl) T.n_int (by decide +kernel) (fun v H1 h => tyI (i := _) h) T.xf.ki) fun _ => ev_and (ev_not (ev_isTy (t := "bool") T (ev_vv 0 rfl) T.n_bool (by decide +kernel) (fun v H1 h => tyI (i := _) h) T.xf.kb)) fun _ => ev_one (ev_chain op_le op_le (ev_vv 1 rfl) (ev_vv 0 rfl) (ev_vv 2 rfl))) fun u H1 s1 pv => k u H1 s1 ?_
  rw [show u = _ from pv]
  rfl
abbrev nBand : List Str := ["value", "part"]
theorem scBand : FnScope nBand ["value"] (defScope sis_band) := ⟨rfl, rfl, rfl, by decide +kernel, rfl, by decide +kernel, by decide +kernel⟩
theorem moB (b : Bool) : Mo Nl (isB b) := inferInstance
theorem moI (b : Int) : Mo Nl (isI b) := inferInstance
theorem all_true {bs : List Bool} (h : ∀ b ∈ bs, b = true) : bs.all id = true := List.all_eq_true.mpr h
theorem ok_band (T : Tx K mg) : DefOk Pg w K mg base "is_band" 2 (spF (fun z : I3 => [isBand z]) I3.ok fun z => isB true) := by
  refine mkDef T.g_is_band T.k_is_band T.d_is_band scBand (fun _ => rfl) (fun _ _ _ _ _ _ us hl => match us, hl with | [_], _ => rfl) fun cdv A outer s H vs Q E z hr fit hc k => ?_
  obtain ⟨x, rfl, hx⟩ := fit1 fit
  have hx : isBand z x H := hx
  obtain ⟨h1, h2, h3⟩ := hc
  refine b_ret (R := Same) (ev_and (ev_isTup T (ev_var 0 rfl hx)) fun _ => ev_and (ev_eq (ev_lenT T.n_len (ev_var 0 rfl hx)) ev_int) fun _ => ev_one (ev_all rfl T.n_all (lc_T 1 (own := [("part", 1)]) (tt := tYes) (F := isI) (G := isB) (fun _ => true) (fun i => decide (0 ≤ i) && decide (i ≤ 100)) moB (fun _ => inferInstance) (by show 3 ≤ 1000000; decide) (ev_var 0 rfl hx) (fun _ _ _ _ _ _ K k => tt_yes (f := fun _ => true) (i := 0) rfl k)
    (fun i u H2 _ _ s2 hu => fun s0 H0 C cl fp => by
      cases hu
      exact ev_call (ok_number T) hr (i, 0, 100) trivial (ea_cons (ev_vv 1 rfl) (ea_cons ev_int (ea_cons ev_int ea_nil))))
    scBand.nd (fun _ _ _ _ _ => pts_nil) (blkOk_by (N := nBand) (sc := defScope sis_band) (by decide +kernel)) (by decide) (fun _ _ _ _ _ => pg_name (i := 1) scBand.nd rfl (Or.inl rfl))))) fun u H1 s1 pv => k u H1 s1 ?_
  rw [show u = _ from pv]
  show V.bl _ = V.bl true
  congr 1
  have e : (([z.x, z.y, z.z].filter (fun _ => true)).map (fun i => decide (0 ≤ i) && decide (i ≤ 100))).all id = true := by
    simp [h1, h2, h3]
  rw [e]
  rfl
abbrev nIrr : List Str := ["vectors", "count", "i", "j", "k"]
theorem scIrr : FnScope nIrr ["vectors"] (defScope sfirst_irregular) := ⟨rfl, rfl, rfl, by decide +kernel, rfl, by decide +kernel, by decide +kernel⟩
/-- regular: every three in their order turn the right way -/
def Regular (vs : List CM.V3) : Prop := ∀ (i j k : Nat) a b c, i < j → j < k → vs[i]? = some a → vs[j]? = some b → vs[k]? = some c → 0 < CM.det3 a b c
theorem at_nat {α : Type} {as : List α} {i : Nat} {a : α} (h : as[i]? = some a) : atI as (i : Int) = some a := atI_nat h
theorem ok_irr (T : Tx K mg) : DefOk Pg w K mg base "first_irregular" 6 (spF (fun z : Nat × List CM.V3 => [tupOf (isVec (cQ K) z.1) z.2]) (fun z => z.1 ≤ 400 ∧ z.2.length ≤ 1000 ∧ Regular z.2) fun z => isV .non) := by
  refine mkDef T.g_first_irregular T.k_first_irregular T.d_first_irregular scIrr (fun _ => rfl) (fun _ _ _ _ _ _ us hl => match us, hl with | [_], _ => rfl) fun cdv A outer s H vs Q E z hr fit hc k => ?_
  obtain ⟨n, us⟩ := z
  obtain ⟨c1, c2, c3⟩ := hc
  have c1 : n ≤ 400 := c1
  have c2 : us.length ≤ 1000 := c2
  obtain ⟨x, rfl, hx⟩ := fit1 fit
  have hx : tupOf (isVec (cQ K) n) us x H := hx
  refine b_set (R := Same) 1 (ev_lenT T.n_len (ev_var 0 rfl hx)) (fun v H1 s1 pv => ?_) scIrr.nd
  cases pv
  have el : decide (-(2 ^ 62) ≤ (us.length : Int) ∧ (us.length : Int) < 2 ^ 62) = true := decide_eq_true (by omega)
  refine b_forR1 (R := Same) 2 (ev_vv 1 rfl) el T.n_range (fun i σ H2 => (∃ a b c, σ = [some x, some (.int (us.length : Int)), a, b, c]) ∧ Same H H2) (fun H2 s2 => ⟨⟨none, none, none, rfl⟩, s1.trans s2⟩) (fun i σ H2 hi hW => ?_) (fun σ H2 hW => ?_) scIrr.nd PassesOwn.never
  · obtain ⟨⟨a, b, c, rfl⟩, s2⟩ := hW
    refine b_forR2 (R := Same) 3 (ev_add (ev_vv 2 rfl) ev_int) (ev_vv 1 rfl) (by omega) T.n_range (fun j σ H3 => (∃ b c, σ = [some x, some (.int (us.length : Int)), some (.int (i : Int)), b, c]) ∧ Same H H3) (fun H3 s3 => ⟨⟨b, c, rfl⟩, s2.trans s3⟩) (fun j σ H3 hj hW => ?_) (fun σ H3 hW => ?_) scIrr.nd PassesOwn.never
    · obtain ⟨⟨b, c, rfl⟩, s3⟩ := hW
      refine b_forR2 (R := Same) 4 (ev_add (ev_vv 3 rfl) ev_int) (ev_vv 1 rfl) (by omega) T.n_range (fun l σ H4 => (∃ c, σ = [some x, some (.int (us.length : Int)), some (.int (i : Int)), some (.int ((i : Int) + 1 + (j : Int))), c]) ∧ Same H H4) (fun H4 s4 => ⟨⟨c, rfl⟩, s3.trans s4⟩) (fun l σ H4 hl hW => ?_) (fun σ H4 hW => ?_) scIrr.nd PassesOwn.never
      · obtain ⟨⟨c, rfl⟩, s4⟩ := hW
        have hx := Mo.mo (R := Same) s4 hx
        have i1 : us[i]? = some us[i] := List.getElem?_eq_getElem (by omega)
        have i2 : us[i + 1 + j]? = some us[i + 1 + j] := List.getElem?_eq_getElem (by omega)
        have i3 : us[i + 1 + j + 1 + l]? = some us[i + 1 + j + 1 + l] := List.getElem?_eq_getElem (by omega)
        have a2 : atI us ((i : Int) + 1 + (j : Int)) = some us[i + 1 + j] := by
          have := at_nat i2
          rwa [show ((i + 1 + j : Nat) : Int) = (i : Int) + 1 + (j : Int) by omega] at this
        have a3 : atI us ((i : Int) + 1 + (j : Int) + 1 + (l : Int)) = some us[i + 1 + j + 1 + l] := by
          have := at_nat i3
          rwa [show ((i + 1 + j + 1 + l : Nat) : Int) = (i : Int) + 1 + (j : Int) + 1 + (l : Int) by omega] at this
        have pos := c3 i (i + 1 + j) (i + 1 + j + 1 + l) _ _ _ (by omega) (by omega) i1 i2 i3
        refine b_when (R := Same) (et_qle T (hr.mono (by decide)) (ev_call (ok_det T) (hr.mono (by decide)) (n, us[i], us[i + 1 + j], us[i + 1 + j + 1 + l]) c1 (ea_cons (ev_ixT (ev_var 0 rfl hx) (ev_vv 2 rfl) (at_nat i1)) (ea_cons (ev_ixT (ev_var 0 rfl hx) (ev_vv 3 rfl) a2) (ea_cons (ev_ixT (ev_var 0 rfl hx) (ev_vv 4 rfl) a3) ea_nil)))) (ev_zero T (hr.mono (by decide)))) (fun ht => ?_) (fun ht H5 s5 => RSs.nil ⟨⟨_, rfl⟩, s4.trans s5⟩)
        have e := of_decide_eq_true ht.symm
        exact absurd pos (Rat.not_lt.mpr e)
      · obtain ⟨⟨c, rfl⟩, s4⟩ := hW
        exact RSs.nil ⟨⟨_, _, rfl⟩, s4⟩
    · obtain ⟨⟨b, c, rfl⟩, s3⟩ := hW
      exact RSs.nil ⟨⟨_, _, _, rfl⟩, s3⟩
  · obtain ⟨⟨a, b, c, rfl⟩, s2⟩ := hW
    exact b_ret (R := Same) ev_non fun v H3 s3 pv => k v H3 (s2.trans s3) pv
end
end Ly
set_option Elab.async false
set_option linter.all false
set_option maxRecDepth 100000
set_option maxHeartbeats 4000000
/-! Observers and views: the classes; reflectances; colors. -/
namespace Ly
open PySem PySem.Spec PyProof.Rows L2
abbrev cO (K : PySem.W.Frag) : Addr := He.ga K "Observer"
abbrev cV (K : PySem.W.Frag) : Addr := He.ga K "View"
theorem kbv : ¬ (("bands" : Str) = "vectors") := by decide +kernel
theorem kol : ¬ (("observer" : Str) = "lamp") := by decide +kernel
theorem kog : ¬ (("observer" : Str) = "generators") := by decide +kernel
theorem klg : ¬ (("lamp" : Str) = "generators") := by decide +kernel
/-- an observer's attributes -/
def fsO (K : PySem.W.Frag) (bs : List I3) (l : List (Str × V)) (H : Hp) : Prop := ∃ a b, l = putF "vectors" b (putF "bands" a []) ∧ tupOf isBand bs a H ∧ tupOf (isVec (cQ K) 7) (bs.map I3.v) b H
def fsV (K : PySem.W.Frag) (z : List I3 × List Int) (l : List (Str × V)) (H : Hp) : Prop := ∃ a b c, l = putF "generators" c (putF "lamp" b (putF "observer" a [])) ∧ tupOf isI z.2 b H ∧
  tupOf (isVec (cQ K) 14) ((List.range z.2.length).map fun i => CM.V3.scale ((z.2.getD i default : Int) : Rat) ((z.1.map I3.v).getD i default)) c H
abbrev isObs (K : PySem.W.Frag) (bs : List I3) : HF := insOf (cO K) (fsO K) bs
abbrev isView (K : PySem.W.Frag) (z : List I3 × List Int) : HF := insOf (cV K) (fsV K) z
/-- a view's generators -/
def gens (z : List I3 × List Int) : List CM.V3 := (List.range z.2.length).map fun i => CM.V3.scale ((z.2.getD i default : Int) : Rat) ((z.1.map I3.v).getD i default)
instance {R : Hp → Hp → Prop} [Rel R] {K : PySem.W.Frag} {bs : List I3} : Mo R (isObs K bs) := ⟨fun e ⟨a, dx, l, ev, ha, x, y, el, h1, h2⟩ => ⟨a, dx, l, ev, Rel.nl e ha nl_ins, x, y, el, Mo.mo e h1, Mo.mo e h2⟩⟩
instance {R : Hp → Hp → Prop} [Rel R] {K : PySem.W.Frag} {z : List I3 × List Int} : Mo R (isView K z) := ⟨fun e ⟨a, dx, l, ev, ha, x, y, u, el, h1, h2⟩ => ⟨a, dx, l, ev, Rel.nl e ha nl_ins, x, y, u, el, Mo.mo e h1, Mo.mo e h2⟩⟩
section
variable {R : Hp → Hp → Prop} {X : Cx} {σ : SS} {H H' : Hp} {P P' Pa Pb Pc : HF} {D : Ends} [Rel R] {e a b c d : Expr} {es : List Expr} {pos p apos : Pos} {bs : List I3} {z : List I3 × List Int}
theorem ev_obands (T : Tx X.K X.mg) (ha : EV R X e σ H (isObs X.K bs)) (hb : attributeBase e "bands" X.env (eval e X.env) = eval e X.env := by rfl) : EV R X (.Attribute e "bands" pos) σ H (tupOf isBand bs) :=
  ev_fldG ha (fun x H1 _ ⟨a, dx, l, ev, ha, x, y, el, h1, h2⟩ => ⟨a, _, dx, l, x, ev, ha, T.c_Observer, T.a_Observer_bands, by rw [el, lookup_putF, if_neg kbv, lookup_putF, if_pos rfl], h1⟩) hb
theorem ev_ovecs (T : Tx X.K X.mg) (ha : EV R X e σ H (isObs X.K bs)) (hb : attributeBase e "vectors" X.env (eval e X.env) = eval e X.env := by rfl) : EV R X (.Attribute e "vectors" pos) σ H (tupOf (isVec (cQ X.K) 7) (bs.map I3.v)) :=
  ev_fldG ha (fun x H1 _ ⟨a, dx, l, ev, ha, x, y, el, h1, h2⟩ => ⟨a, _, dx, l, y, ev, ha, T.c_Observer, T.a_Observer_vectors, by rw [el, lookup_putF, if_pos rfl], h2⟩) hb
theorem ev_vlamp (T : Tx X.K X.mg) (ha : EV R X e σ H (isView X.K z)) (hb : attributeBase e "lamp" X.env (eval e X.env) = eval e X.env := by rfl) : EV R X (.Attribute e "lamp" pos) σ H (tupOf isI z.2) :=
  ev_fldG ha (fun x H1 _ ⟨a, dx, l, ev, ha, x, y, u, el, h1, h2⟩ => ⟨a, _, dx, l, y, ev, ha, T.c_View, T.a_View_lamp, by rw [el, lookup_putF, if_neg klg, lookup_putF, if_pos rfl], h1⟩) hb
theorem ev_vgens (T : Tx X.K X.mg) (ha : EV R X e σ H (isView X.K z)) (hb : attributeBase e "generators" X.env (eval e X.env) = eval e X.env := by rfl) : EV R X (.Attribute e "generators" pos) σ H (tupOf (isVec (cQ X.K) 14) (gens z)) :=
  ev_fldG ha (fun x H1 _ ⟨a, dx, l, ev, ha, x, y, u, el, h1, h2⟩ => ⟨a, _, dx, l, u, ev, ha, T.c_View, T.a_View_generators, by rw [el, lookup_putF, if_pos rfl], h2⟩) hb
/-- len(x) by an own __len__ -/
theorem ev_lenOwn {C : Addr} {k : Nat} {α : Type} {pars : α → List HF} {cond : α → Prop} {n : α → Nat} (hm : X.mg "len" = none) (G : MethOk X.prog X.w X.K X.mg X.base C "__len__" k (spF pars cond fun z => isI (n z : Int))) (hr : Room (k + 1) X.A) (y : α) (hc : cond y) (hn : n y < 2 ^ 63) (hz : pars y = [Pa]) (ia : ∀ v H, Pa v H → ∃ a dx fs, v = .ref a ∧ H a = some (.ins C dx fs)) (ha : EV R X e σ H Pa) [Mo R Pa]
    (hg : Gl X "len" := by rfl) (he : starEach [e] X.env = (false, eval e X.env) :: starEach [] X.env := by rfl) : EV R X (.Call (.Name "len" p) [e] [] pos) σ H (isI (n y : Int)) := by
  obtain ⟨g, fd, ps, M, F, hB⟩ := G.ex
  refine ev_b1 (call_lenOwn M.at_ M.fn F hB hr) hm PySem.boot_len (ea_cons ha ea_nil he) (fun vs H1 r fit Q q => ?_) hg (by decide) (by decide) he
  obtain ⟨v, rfl, pv⟩ := fit1 fit
  obtain ⟨a, dx, fs, rfl, hx⟩ := ia v H1 pv
  exact ⟨a, dx, fs, rfl, hx, y, by rw [hz]; exact ⟨_, _, rfl, pv, rfl⟩, hc, fun w H2 s pw => ⟨n y, pw, by omega, by omega, q w H2 (Rel.sm s) pw⟩⟩
/-- C.N, a constant of a class -/
theorem ev_cconst {C : Addr} {f cn : Str} {i : Int} (rd : ClX.CRead X.K C (.type "type")) (hv : valB X.K C f i = true) (hm : X.mg cn = some (.ref C)) (hg : Gl X cn := by rfl) (hd : (cn == ("__debug__" : Str)) = false := by decide) (hb : attributeBase (.Name cn p) f X.env (eval (.Name cn p) X.env) = eval (.Name cn p) X.env := by rfl) : EV R X (.Attribute (.Name cn p) f pos) σ H (isI i) := by
  obtain ⟨t, cv⟩ := valB_ok hv
  refine EV.by (ClX.pe_cval pe_re hb) fun H1 r Q q => ?_
  exact ev_glob (v := .ref C) hm rfl hg hd H1 r _ fun v H2 r2 pv => by
    cases pv
    exact ⟨C, _, _, _, rfl, rd, cv, q _ _ r2 rfl⟩
end
/-- instances of the class at C may have changed, all else stands -/
def Ch (C : Addr) (H H1 : Hp) : Prop := ∀ a o, H a = some o → (∀ dx l, o ≠ .ins C dx l) → H1 a = some o
instance {C : Addr} {α : Type} {F : α → HF} {as : List α} [∀ a, Mo (Ch C) (F a)] : Mo (Ch C) (tupOf F as) := ⟨fun {v H H1} e h => by
  obtain ⟨a, xs, rfl, ha, q⟩ := h
  exact ⟨a, xs, rfl, e _ _ ha (fun _ _ z => by cases z), q.mo e⟩⟩
theorem moCh {C C' : Addr} (h : C' ≠ C) (n : Nat) (q : Rat) : Mo (Ch C) (isQ C' n q) := ⟨fun e ⟨b, a, dx, ev, ha⟩ => ⟨b, a, dx, ev, e _ _ ha (fun _ _ z => by cases z; exact h rfl)⟩⟩
theorem ch_upd {C dx : Addr} {l l' : List (Str × V)} {y : Addr} {H : Hp} (h : H y = some (.ins C dx l)) : Ch C H (upd H y (.ins C dx l')) := fun a o e n => by
  rw [upd_ne (fun z => by subst z; rw [h] at e; cases e; exact n _ _ rfl)]
  exact e
section
variable {Pg : Program} {w : World} {K : PySem.W.Frag} {mg : Str → Option Value} {base : Heap}
theorem moBand (b : I3) : Mo Nl (isBand b) := inferInstance
theorem moVec {C : Addr} {n : Nat} (v : CM.V3) : Mo Nl (isVec C n v) := inferInstance
abbrev nObs : List Str := ["self", "bands", "vectors", "triple", "band", "part"]
theorem scObs : FnScope nObs ["self", "bands"] (defScope sObserverinit) := ⟨rfl, rfl, rfl, by decide +kernel, rfl, by decide +kernel, by decide +kernel⟩
def condO (bs : List I3) : Prop := 4 ≤ bs.length ∧ bs.length ≤ 7 ∧ (∀ b ∈ bs, b.ok) ∧ Regular (bs.map I3.v)
theorem small7 {i : Int} (h : 0 ≤ i ∧ i ≤ 100) : i.natAbs < 2 ^ 7 := by
  have : (2 : Nat) ^ 7 = 128 := by decide
  omega
theorem ok_Obs (T : Tx K mg) : ClsOk Pg w K mg base "Observer" (cO K) 8 (spN (cO K) (fun bs : List I3 => [tupOf isBand bs]) condO (fsO K)) := by
  refine mkInit T.g_Observer T.k_Observer T.d_Observer_init scObs (fun _ => rfl) (fun _ _ _ _ _ _ us hl => match us, hl with | [_, _], _ => rfl) fun cdv A outer s H y dx us Q E bs hr hy fit hc k => ?_
  obtain ⟨c1, c2, c3, c4⟩ := hc
  obtain ⟨x, rfl, hx⟩ := fit1 fit
  refine b_when (R := Same) (et_or2 (et_nt (et_vt (ev_isTup T (ev_var 1 rfl hx)) rfl)) (et_nt (et_is (et_chain op_le op_le (ev_cconst T.xf.rd T.xf.lb T.g_Observer) (ev_lenT T.n_len (ev_var 1 rfl hx)) (ev_cconst T.xf.rd T.xf.mb T.g_Observer)) (by simp; omega)))) (fun ht => by cases ht) (fun _ H1 s1 => ?_)
  have hx := Mo.mo (R := Same) s1 hx
  refine b_when (R := Same) (et_nt (et_vt (ev_all rfl T.n_all (lc_T 4 (own := [("band", 4)]) (tt := tYes) (F := isBand) (G := isB) (fun _ => true) (fun _ => true) moB (fun _ => inferInstance) (by omega) (ev_var 1 rfl hx) (fun _ _ _ _ _ _ K k => tt_yes (f := fun _ => true) (i := 0) rfl k)
    (fun b u H2 hb _ s2 hu => fun s0 H0 C cl fp => ev_call (ok_band T) (hr.mono (by decide)) b (c3 b hb) (ea_cons (ev_var 4 rfl hu) ea_nil))
    scObs.nd (fun _ _ _ _ _ => pts_nil) (blkOk_by (N := nObs) (sc := defScope sObserverinit) (by decide +kernel)) (by decide) (fun _ _ _ _ _ => pg_name (i := 4) scObs.nd rfl (Or.inl rfl)))) (by simp))) (fun ht => by cases ht) (fun _ H2 s2 => ?_)
  have hx := Mo.mo (R := Same) s2 hx
  refine b_set (R := Same) 2 (ev_tupleOf T.n_tuple (lc_T 4 (own := [("band", 4)]) (tt := tYes) (F := isBand) (G := isVec (cQ K) 7) (fun _ => true) I3.v moVec (fun _ => inferInstance) (by omega) (ev_var 1 rfl hx) (fun _ _ _ _ _ _ K k => tt_yes (f := fun _ => true) (i := 0) rfl k)
    (fun b u H3 hb _ s3 hu => fun s0 H0 C cl fp => ev_tupleOf T.n_tuple (lc_T 5 (own := [("part", 5)]) (tt := tYes) (F := isI) (G := isQ (cQ K) 7) (fun _ => true) (fun i => (i : Rat)) moN (fun _ => inferInstance) (by show 3 ≤ 1000000; decide) (ev_var 4 rfl hu) (fun _ _ _ _ _ _ K k => tt_yes (f := fun _ => true) (i := 0) rfl k)
      (fun i w H4 hi _ s4 hw => fun s0 H0 C cl fp => by
        cases hw
        refine ev_call (ok_whole T) (hr.mono (by decide)) (7, i) ⟨?_, by show 0 < 7; decide, by show 7 ≤ 8000; decide⟩ (ea_cons (ev_vv 5 rfl) ea_nil)
        obtain ⟨h1, h2, h3⟩ := c3 b hb
        simp only [List.mem_cons, List.not_mem_nil, or_false] at hi
        rcases hi with e | e | e <;> rw [e] <;> exact small7 (by assumption))
      scObs.nd (fun _ _ _ _ _ => pts_nil) (blkOk_by (by kernel_rfl)) (by decide) (fun _ _ _ _ _ => pg_name (i := 5) scObs.nd rfl (Or.inl rfl))) (fun _ => inferInstance))
    scObs.nd (fun _ _ _ _ _ => pts_nil) (blkOk_by (N := nObs) (sc := defScope sObserverinit) (by decide +kernel)) (by decide) (fun _ _ _ _ _ => pg_name (i := 4) scObs.nd rfl (Or.inl rfl))) (fun _ => inferInstance)) (fun v H3 s3 pv => ?_) scObs.nd
  have hx := Mo.mo (R := Same) s3 hx
  have pv : tupOf (isVec (cQ K) 7) (bs.map I3.v) v H3 := by
    rw [List.filter_eq_self.mpr (fun _ _ => rfl)] at pv
    exact pv
  refine b_set (R := Same) 3 (ev_call (ok_irr T) (hr.mono (by decide)) (7, bs.map I3.v) ⟨by show 7 ≤ 400; decide, by show (bs.map I3.v).length ≤ 1000; rw [List.length_map]; omega, c4⟩ (ea_cons (ev_var 2 rfl pv) ea_nil)) (fun u H4 s4 pu => ?_) scObs.nd
  cases pu
  have hx := Mo.mo (R := Same) s4 hx
  have pv := Mo.mo (R := Same) s4 pv
  refine b_when (R := Same) (et_cmp (p := (· = false)) op_notN (ev_vv 3 rfl) ev_non (fun x y H5 r px py Q q => by
    cases px
    cases py
    exact ⟨rfl, q _ _ (Rel.rf _) ⟨false, rfl, rfl⟩⟩)) (fun ht => by cases ht) (fun _ H5 s5 => ?_)
  have hx := Mo.mo (R := Same) s5 hx
  have pv := Mo.mo (R := Same) s5 pv
  have s05 : Same H H5 := (((s1.trans s2).trans s3).trans s4).trans s5
  refine b_fld (R := Same) (ev_var 1 rfl hx) (ev_vv 0 rfl) (fun a o H6 s6 pa po => ?_)
  cases po
  refine ⟨y, cO K, dx, [], rfl, s6 _ _ (s05 _ _ hy), T.c_Observer, T.a_Observer_bands, by decide, ?_⟩
  have y6 : H6 y = some (.ins (cO K) dx []) := s6 _ _ (s05 _ _ hy)
  have pv := Mo.mo (R := Same) s6 pv
  have pa : tupOf isBand bs a H6 := pa
  haveI : ∀ q, Mo (Ch (cO K)) (isQ (cQ K) 7 q) := moCh T.xf.qo 7
  have pa := Mo.mo (R := Ch (cO K)) (ch_upd (l' := putF "bands" a []) y6) pa
  have pv := Mo.mo (R := Ch (cO K)) (ch_upd (l' := putF "bands" a []) y6) pv
  refine b_fld (R := Same) (ev_var 2 rfl pv) (ev_vv 0 rfl) (fun b o H7 s7 pb po => ?_)
  cases po
  have pa := Mo.mo (R := Same) s7 pa
  have pb : tupOf (isVec (cQ K) 7) (bs.map I3.v) b H7 := pb
  have y7 : H7 y = some (.ins (cO K) dx (putF "bands" a [])) := s7 _ _ upd_same
  refine ⟨y, cO K, dx, _, rfl, y7, T.c_Observer, T.a_Observer_vectors, by show 1 < 1000; decide, RSs.nil ?_⟩
  refine k _ _ (fun c o hc ho => ?_) upd_same ⟨a, b, rfl, Mo.mo (R := Ch (cO K)) (ch_upd y7) pa, Mo.mo (R := Ch (cO K)) (ch_upd y7) pb⟩
  rw [upd_ne hc]
  refine s7 _ _ ?_
  rw [upd_ne hc]
  exact s6 _ _ (s05 _ _ ho)
theorem scOlen : FnScope ["self"] ["self"] (defScope sObserverlen) := ⟨rfl, rfl, rfl, by decide +kernel, rfl, by decide +kernel, by decide +kernel⟩
theorem ok_Olen (T : Tx K mg) : MethOk Pg w K mg base (cO K) "__len__" 1 (spF (fun bs : List I3 => [isObs K bs]) (fun _ => True) fun bs => isI (bs.length : Int)) := by
  refine mkMeth T.m_Observer_len T.d_Observer_len scOlen (fun _ => rfl) (fun _ _ _ _ _ _ us hl => match us, hl with | [_], _ => rfl) fun cdv A outer s H vs Q E bs hr fit hc k => ?_
  obtain ⟨x, rfl, hx⟩ := fit1 fit
  have hx : isObs K bs x H := hx
  exact b_ret (R := Same) (ev_lenT T.n_len (ev_obands T (ev_var 0 rfl hx))) fun v H1 s1 pv => k v H1 s1 pv
end
end Ly
set_option Elab.async false
set_option linter.all false
set_option maxRecDepth 100000
set_option maxHeartbeats 4000000
/-! Views, reflectances, colors, matches. -/
namespace Ly
open PySem PySem.Spec PyProof.Rows L2
section
variable {R : Hp → Hp → Prop} {X : Cx} {σ : SS} {H H' : Hp} {P P' Pa Pb Pc : HF} {D : Ends} [Rel R] {e a b c d : Expr} {es : List Expr} {pos p apos : Pos} {bs : List I3} {z : List I3 × List Int}
theorem ev_lenObs (T : Tx X.K X.mg) (hr : Room 2 X.A) (hb : bs.length < 1000) (ha : EV R X e σ H (isObs X.K bs)) (hg : Gl X "len" := by rfl) (he : starEach [e] X.env = (false, eval e X.env) :: starEach [] X.env := by rfl) : EV R X (.Call (.Name "len" p) [e] [] pos) σ H (isI (bs.length : Int)) :=
  ev_lenOwn (n := fun bs : List I3 => bs.length) T.n_len (ok_Olen (Pg := X.prog) (w := X.w) (base := X.base) T) hr bs trivial (by show bs.length < 2 ^ 63; omega) rfl (fun v H ⟨a, dx, l, e, h, _⟩ => ⟨a, dx, l, e, h⟩) ha hg he
end
section
variable {Pg : Program} {w : World} {K : PySem.W.Frag} {mg : Str → Option Value} {base : Heap}
abbrev nView : List Str := ["self", "observer", "lamp", "value", "vector"]
theorem scView : FnScope nView ["self", "observer", "lamp"] (defScope sViewinit) := ⟨rfl, rfl, rfl, by decide +kernel, rfl, by decide +kernel, by decide +kernel⟩
def condV (z : List I3 × List Int) : Prop := z.1.length = z.2.length ∧ z.2.length ≤ 7 ∧ ∀ l ∈ z.2, 1 ≤ l ∧ l ≤ 100
theorem ok_View (T : Tx K mg) : ClsOk Pg w K mg base "View" (cV K) 8 (spN (cV K) (fun z : List I3 × List Int => [isObs K z.1, tupOf isI z.2]) condV (fsV K)) := by
  refine mkInit T.g_View T.k_View T.d_View_init scView (fun _ => rfl) (fun _ _ _ _ _ _ us hl => match us, hl with | [_, _, _], _ => rfl) fun cdv A outer s H y dx us Q E z hr hy fit hc k => ?_
  obtain ⟨bs, ls⟩ := z
  obtain ⟨c1, c2, c3⟩ := hc
  have c1 : bs.length = ls.length := c1
  have c2 : ls.length ≤ 7 := c2
  have c3 : ∀ l ∈ ls, 1 ≤ l ∧ l ≤ 100 := c3
  obtain ⟨o, x, rfl, ho, hx⟩ := fit2 fit
  have ho : isObs K bs o H := ho
  have hx : tupOf isI ls x H := hx
  refine b_when (R := Same) (et_or2 (et_nt (et_vt (ev_isTup T (ev_var 2 rfl hx)) rfl)) (et_is (et_ne (ev_lenT T.n_len (ev_var 2 rfl hx)) (ev_lenObs T (hr.mono (by decide)) (by omega) (ev_var 1 rfl ho))) (by rw [c1]; simp))) (fun ht => by cases ht) (fun _ H1 s1 => ?_)
  have hx := Mo.mo (R := Same) s1 hx
  have ho := Mo.mo (R := Same) s1 ho
  refine b_when (R := Same) (et_nt (et_vt (ev_all rfl T.n_all (lc_T 3 (own := [("value", 3)]) (tt := tYes) (F := isI) (G := isB) (fun _ => true) (fun i => decide (1 ≤ i) && decide (i ≤ 100)) moB (fun _ => inferInstance) (by omega) (ev_var 2 rfl hx) (fun _ _ _ _ _ _ K k => tt_yes (f := fun _ => true) (i := 0) rfl k)
    (fun i u H2 hb _ s2 hu => fun s0 H0 C cl fp => by
      cases hu
      exact ev_call (ok_number T) (hr.mono (by decide)) (i, 1, 100) trivial (ea_cons (ev_vv 3 rfl) (ea_cons ev_int (ea_cons ev_int ea_nil))))
    scView.nd (fun _ _ _ _ _ => pts_nil) (blkOk_by (N := nView) (sc := defScope sViewinit) (by decide +kernel)) (by decide) (fun _ _ _ _ _ => pg_name (i := 3) scView.nd rfl (Or.inl rfl)))) (by
      rw [List.filter_eq_self.mpr (fun _ _ => rfl), List.all_map]
      refine List.all_eq_true.mpr fun l hl => ?_
      have := c3 l hl
      simp; omega))) (fun ht => by cases ht) (fun _ H2 s2 => ?_)
  have hx := Mo.mo (R := Same) s2 hx
  have ho := Mo.mo (R := Same) s2 ho
  refine b_fld (R := Same) (ev_var 1 rfl ho) (ev_vv 0 rfl) (fun a q H3 s3 pa po => ?_)
  cases po
  have y3 : H3 y = some (.ins (cV K) dx []) := s3 _ _ (s2 _ _ (s1 _ _ hy))
  refine ⟨y, cV K, dx, [], rfl, y3, T.c_View, T.a_View_observer, by decide, ?_⟩
  haveI : ∀ n q, Mo (Ch (cV K)) (isQ (cQ K) n q) := moCh T.xf.qv
  have moO : ∀ {v H H1}, Ch (cV K) H H1 → isObs K bs v H → isObs K bs v H1 := fun {v H H1} e ⟨a, dx, l, ev, ha, x, y, el, h1, h2⟩ => ⟨a, dx, l, ev, e _ _ ha (fun _ _ z => T.xf.ov (by injection z)), x, y, el, Mo.mo e h1, Mo.mo e h2⟩
  have hx := Mo.mo (R := Same) s3 hx
  have ho := Mo.mo (R := Same) s3 ho
  have e3 := ch_upd (l' := putF "observer" a []) y3
  have hx := Mo.mo (R := Ch (cV K)) e3 hx
  have ho := moO e3 ho
  refine b_fld (R := Same) (ev_var 2 rfl hx) (ev_vv 0 rfl) (fun b q H4 s4 pb po => ?_)
  cases po
  have y4 : H4 y = some (.ins (cV K) dx (putF "observer" a [])) := s4 _ _ upd_same
  refine ⟨y, cV K, dx, _, rfl, y4, T.c_View, T.a_View_lamp, by show 1 < 1000; decide, ?_⟩
  have hx := Mo.mo (R := Same) s4 hx
  have ho := Mo.mo (R := Same) s4 ho
  have pb : tupOf isI ls b H4 := pb
  have e4 := ch_upd (l' := putF "lamp" b (putF "observer" a [])) y4
  have hx := Mo.mo (R := Ch (cV K)) e4 hx
  have pb := Mo.mo (R := Ch (cV K)) e4 pb
  have ho := moO e4 ho
  refine b_fld (R := Same) (ev_tupleOf T.n_tuple (lc_Z 3 4 (own := [("value", 3), ("vector", 4)]) (F1 := isI) (F2 := isVec (cQ K) 7) (as := ls) (bs := bs.map I3.v) (G := isVec (cQ K) 14) (fun l v => CM.V3.scale ((l : Int) : Rat) v) moVec (fun _ => inferInstance) (fun _ => inferInstance) (by omega) (by rw [List.length_map, c1]) T.n_zip (ea_cons (ev_var 2 rfl hx) (ea_cons (ev_ovecs T (ev_var 1 rfl ho)) ea_nil))
    (fun i l v a b H5 hl _ s5 ha hb => fun s0 H0 C cl fp => by
      cases ha
      have := c3 l (List.mem_of_getElem? hl)
      refine ev_call (ok_scaled T) (hr.mono (by decide)) ((7, ((l : Int) : Rat)), (7, v)) (by show 7 + 7 + 1 ≤ 8000; decide) (ea_cons (ev_call (ok_whole T) (hr.mono (by decide)) (7, l) ⟨small7 (by omega), by show 0 < 7; decide, by show 7 ≤ 8000; decide⟩ (ea_cons (ev_vv 3 rfl) ea_nil)) (ea_cons (ev_var 4 rfl hb) ea_nil)))
    scView.nd (blkOk_by (N := nView) (sc := defScope sViewinit) (by decide +kernel)) (by decide) (by decide) (fun _ _ _ _ _ => pg_tup rfl (pgs_cons (pg_name (i := 3) scView.nd rfl (Or.inl rfl)) (pgs_cons (pg_name (i := 4) scView.nd rfl (Or.inl rfl)) pgs_nil)))) (fun _ => inferInstance)) (ev_vv 0 rfl) (fun c q H5 s5 pc po => ?_)
  cases po
  have y5 : H5 y = some (.ins (cV K) dx (putF "lamp" b (putF "observer" a []))) := s5 _ _ upd_same
  have pb := Mo.mo (R := Same) s5 pb
  have e5 := ch_upd (l' := putF "generators" c (putF "lamp" b (putF "observer" a []))) y5
  refine ⟨y, cV K, dx, _, rfl, y5, T.c_View, T.a_View_generators, by show 2 < 1000; decide, RSs.nil ?_⟩
  refine k _ _ (fun g o hg ho => ?_) upd_same ⟨a, b, c, rfl, Mo.mo (R := Ch (cV K)) e5 pb, Mo.mo (R := Ch (cV K)) e5 (show tupOf (isVec (cQ K) 14) (gens (bs, ls)) c H5 from pc)⟩
  rw [upd_ne hg]
  refine s5 _ _ ?_
  rw [upd_ne hg]
  refine s4 _ _ ?_
  rw [upd_ne hg]
  exact s3 _ _ (s2 _ _ (s1 _ _ ho))
theorem scVlen : FnScope ["self"] ["self"] (defScope sViewlen) := ⟨rfl, rfl, rfl, by decide +kernel, rfl, by decide +kernel, by decide +kernel⟩
theorem ok_Vlen (T : Tx K mg) : MethOk Pg w K mg base (cV K) "__len__" 1 (spF (fun z : List I3 × List Int => [isView K z]) (fun _ => True) fun z => isI (z.2.length : Int)) := by
  refine mkMeth T.m_View_len T.d_View_len scVlen (fun _ => rfl) (fun _ _ _ _ _ _ us hl => match us, hl with | [_], _ => rfl) fun cdv A outer s H vs Q E bs hr fit hc k => ?_
  obtain ⟨x, rfl, hx⟩ := fit1 fit
  have hx : isView K bs x H := hx
  exact b_ret (R := Same) (ev_lenT T.n_len (ev_vlamp T (ev_var 0 rfl hx))) fun v H1 s1 pv => k v H1 s1 pv
abbrev nRefl : List Str := ["value", "count", "part"]
theorem scRefl : FnScope nRefl ["value", "count"] (defScope sis_reflectance) := ⟨rfl, rfl, rfl, by decide +kernel, rfl, by decide +kernel, by decide +kernel⟩
/-- a reflectance: values from 0 to 1 -/
def Refl (rs : List Rat) : Prop := ∀ r ∈ rs, 0 ≤ r ∧ r ≤ 1
theorem ok_isrefl (T : Tx K mg) : DefOk Pg w K mg base "is_reflectance" 6 (spF (fun z : Nat × List Rat => [tupOf (isQ (cQ K) z.1) z.2, isI (z.2.length : Int)]) (fun z => z.1 ≤ 7000 ∧ z.2.length ≤ 1000 ∧ Refl z.2) fun z => isB true) := by
  refine mkDef T.g_is_reflectance T.k_is_reflectance T.d_is_reflectance scRefl (fun _ => rfl) (fun _ _ _ _ _ _ us hl => match us, hl with | [_, _], _ => rfl) fun cdv A outer s H vs Q E z hr fit hc k => ?_
  obtain ⟨n, rs⟩ := z
  obtain ⟨c1, c2, c3⟩ := hc
  have c1 : n ≤ 7000 := c1
  have c2 : rs.length ≤ 1000 := c2
  obtain ⟨x, _, rfl, hx, rfl⟩ := fit2 fit
  have hx : tupOf (isQ (cQ K) n) rs x H := hx
  refine b_when (R := Same) (et_or3 (et_nt (et_vt (ev_isTup T (ev_var 0 rfl hx)) rfl)) (et_is (et_ne (ev_lenT T.n_len (ev_var 0 rfl hx)) (ev_vv 1 rfl)) (by simp)) (et_nt (et_vt (ev_all rfl T.n_all (lc_T 2 (own := [("part", 2)]) (tt := tYes) (F := isQ (cQ K) n) (G := isB) (fun _ => true) (fun i => true) moB (fun _ => inferInstance) (by omega) (ev_var 0 rfl hx) (fun _ _ _ _ _ _ K k => tt_yes (f := fun _ => true) (i := 0) rfl k)
    (fun r u H2 hb _ s2 hu => fun s0 H0 C cl fp => ev_call (ok_isq T) (hr.mono (by decide)) (n, r) trivial (ea_cons (ev_var 2 rfl hu) ea_nil))
    scRefl.nd (fun _ _ _ _ _ => pts_nil) (blkOk_by (N := nRefl) (sc := defScope sis_reflectance) (by decide +kernel)) (by decide) (fun _ _ _ _ _ => pg_name (i := 2) scRefl.nd rfl (Or.inl rfl)))) (by simp)))) (fun ht => by cases ht) (fun _ H1 s1 => ?_)
  have hx := Mo.mo (R := Same) s1 hx
  refine b_ret (R := Same) (ev_all rfl T.n_all (lc_T 2 (own := [("part", 2)]) (tt := tYes) (F := isQ (cQ K) n) (G := isB) (fun _ => true) (fun r => decide (0 ≤ r) && decide (r ≤ 1)) moB (fun _ => inferInstance) (by omega) (ev_var 0 rfl hx) (fun _ _ _ _ _ _ K k => tt_yes (f := fun _ => true) (i := 0) rfl k)
    (fun r u H2 hb _ s2 hu => fun s0 H0 C cl fp => ev_and (ev_qle T (hr.mono (by decide)) (ev_zero T (hr.mono (by decide))) (ev_var 2 rfl hu)) fun _ => ev_one (ev_qle T (hr.mono (by decide)) (ev_var 2 rfl hu) (ev_oneQ T (hr.mono (by decide)))))
    scRefl.nd (fun _ _ _ _ _ => pts_nil) (blkOk_by (N := nRefl) (sc := defScope sis_reflectance) (by decide +kernel)) (by decide) (fun _ _ _ _ _ => pg_name (i := 2) scRefl.nd rfl (Or.inl rfl)))) fun u H2 s2 pv => k u H2 (s1.trans s2) ?_
  rw [show u = _ from pv]
  show V.bl _ = V.bl true
  congr 1
  rw [List.filter_eq_self.mpr (fun _ _ => rfl), List.all_map]
  refine List.all_eq_true.mpr fun r hr => ?_
  have := c3 r hr
  simp [this.1, this.2]
theorem scCheck : FnScope ["value", "count"] ["value", "count"] (defScope scheck_reflectance) := ⟨rfl, rfl, rfl, by decide +kernel, rfl, by decide +kernel, by decide +kernel⟩
theorem ok_check (T : Tx K mg) : DefOk Pg w K mg base "check_reflectance" 7 (spF (fun z : Nat × List Rat => [tupOf (isQ (cQ K) z.1) z.2, isI (z.2.length : Int)]) (fun z => z.1 ≤ 7000 ∧ z.2.length ≤ 1000 ∧ Refl z.2) fun z => isV .non) := by
  refine mkDef T.g_check_reflectance T.k_check_reflectance T.d_check_reflectance scCheck (fun _ => rfl) (fun _ _ _ _ _ _ us hl => match us, hl with | [_, _], _ => rfl) fun cdv A outer s H vs Q E z hr fit hc k => ?_
  obtain ⟨x, y, rfl, hx, hy⟩ := fit2 fit
  exact b_when (R := Same) (et_nt (et_vt (ev_call (ok_isrefl T) hr z hc (ea_cons (ev_var 0 rfl hx) (ea_cons (ev_var 1 rfl hy) ea_nil))) rfl)) (fun ht => by cases ht) fun _ H1 s1 => RSs.nil (k _ H1 s1 rfl)
end
section
variable {R : Hp → Hp → Prop} {X : Cx} {σ : SS} {H H' : Hp} {P P' Pa Pb Pc : HF} {D : Ends} [Rel R] {e a b c d : Expr} {es : List Expr} {pos p apos : Pos} {bs : List I3} {z : List I3 × List Int}
theorem ev_lenView (T : Tx X.K X.mg) (hr : Room 2 X.A) (hb : z.2.length < 1000) (ha : EV R X e σ H (isView X.K z)) (hg : Gl X "len" := by rfl) (he : starEach [e] X.env = (false, eval e X.env) :: starEach [] X.env := by rfl) : EV R X (.Call (.Name "len" p) [e] [] pos) σ H (isI (z.2.length : Int)) :=
  ev_lenOwn (n := fun z : List I3 × List Int => z.2.length) T.n_len (ok_Vlen (Pg := X.prog) (w := X.w) (base := X.base) T) hr z trivial (by show z.2.length < 2 ^ 63; omega) rfl (fun v H ⟨a, dx, l, e, h, _⟩ => ⟨a, dx, l, e, h⟩) ha hg he
end
/-- the color of a reflectance -/
def color (rs : List Rat) (gs : List CM.V3) : CM.V3 := CM.vsum ((List.range rs.length).map fun i => CM.V3.scale (rs.getD i default) (gs.getD i default))
section
variable {Pg : Program} {w : World} {K : PySem.W.Frag} {mg : Str → Option Value} {base : Heap}
abbrev nColor : List Str := ["view", "reflectance", "value", "generator"]
theorem scColor : FnScope nColor ["view", "reflectance"] (defScope scolor_of) := ⟨rfl, rfl, rfl, by decide +kernel, rfl, by decide +kernel, by decide +kernel⟩
abbrev VR : Type := (List I3 × List Int) × Nat × List Rat
def condC (z : VR) : Prop := z.1.2.length = z.2.2.length ∧ z.2.2.length ≤ 7 ∧ z.2.1 ≤ 1100 ∧ Refl z.2.2
theorem gens_len (z : List I3 × List Int) : (gens z).length = z.2.length := by simp [gens]
theorem ok_color (T : Tx K mg) : DefOk Pg w K mg base "color_of" 8 (spF (fun z : VR => [isView K z.1, tupOf (isQ (cQ K) z.2.1) z.2.2]) condC fun z => isVec (cQ K) (1 + z.2.2.length * (z.2.1 + 14 + 1)) (color z.2.2 (gens z.1))) := by
  refine mkDef T.g_color_of T.k_color_of T.d_color_of scColor (fun _ => rfl) (fun _ _ _ _ _ _ us hl => match us, hl with | [_, _], _ => rfl) fun cdv A outer s H vs Q E z hr fit hc k => ?_
  obtain ⟨vw, n, rs⟩ := z
  obtain ⟨c1, c2, c3, c4⟩ := hc
  have c1 : vw.2.length = rs.length := c1
  have c2 : rs.length ≤ 7 := c2
  have c3 : n ≤ 1100 := c3
  obtain ⟨x, y, rfl, hx, hy⟩ := fit2 fit
  have hx : isView K vw x H := hx
  have hy : tupOf (isQ (cQ K) n) rs y H := hy
  have hm : rs.length * (n + 14 + 1) ≤ 7 * (n + 14 + 1) := Nat.mul_le_mul_right _ c2
  refine b_expr (R := Same) (ev_call (ok_check T) (hr.mono (by decide)) (n, rs) ⟨by show n ≤ 7000; omega, by show rs.length ≤ 1000; omega, c4⟩ (ea_cons (ev_var 1 rfl hy) (ea_cons (by rw [← c1]; exact ev_lenView T (hr.mono (by decide)) (by omega) (ev_var 0 rfl hx)) ea_nil))) fun v H1 s1 pv => ?_
  have hx := Mo.mo (R := Same) s1 hx
  have hy := Mo.mo (R := Same) s1 hy
  refine b_ret (R := Same) (ev_call (ok_sum T) (hr.mono (by decide)) (n + 14, (List.range rs.length).map fun i => CM.V3.scale (rs.getD i default) ((gens vw).getD i default)) (by show 1 + ((List.range rs.length).map _).length * (n + 14 + 1) ≤ 8000; rw [List.length_map, List.length_range]; omega) (ea_cons (lc_Z 2 3 (own := [("value", 2), ("generator", 3)]) (F1 := isQ (cQ K) n) (F2 := isVec (cQ K) 14) (as := rs) (bs := gens vw) (G := isVec (cQ K) (n + 14)) (fun r g => CM.V3.scale r g) moVec (fun _ => inferInstance) (fun _ => inferInstance) (by omega) (by rw [gens_len, c1]) T.n_zip (ea_cons (ev_var 1 rfl hy) (ea_cons (ev_vgens T (ev_var 0 rfl hx)) ea_nil))
    (fun i r g a b H2 _ _ s2 ha hb => fun s0 H0 C cl fp => ev_call (ok_scaled T) (hr.mono (by decide)) ((n, r), (14, g)) (by show n + 14 + 1 ≤ 8000; omega) (ea_cons (ev_var 2 rfl ha) (ea_cons (ev_var 3 rfl hb) ea_nil)))
    scColor.nd (blkOk_by (N := nColor) (sc := defScope scolor_of) (by decide +kernel)) (by decide) (by decide) (fun _ _ _ _ _ => pg_tup rfl (pgs_cons (pg_name (i := 2) scColor.nd rfl (Or.inl rfl)) (pgs_cons (pg_name (i := 3) scColor.nd rfl (Or.inl rfl)) pgs_nil)))) ea_nil)) fun u H2 s2 pv => k u H2 (s1.trans s2) ?_
  have pv : isVec (cQ K) (1 + ((List.range rs.length).map fun i => CM.V3.scale (rs.getD i default) ((gens vw).getD i default)).length * (n + 14 + 1)) (color rs (gens vw)) u H2 := pv
  rw [List.length_map, List.length_range] at pv
  exact pv
theorem scMatch : FnScope ["view", "first", "second"] ["view", "first", "second"] (defScope sis_match) := ⟨rfl, rfl, rfl, by decide +kernel, rfl, by decide +kernel, by decide +kernel⟩
abbrev VRR : Type := (List I3 × List Int) × (Nat × List Rat) × (Nat × List Rat)
theorem ok_match (T : Tx K mg) : DefOk Pg w K mg base "is_match" 9 (spF (fun z : VRR => [isView K z.1, tupOf (isQ (cQ K) z.2.1.1) z.2.1.2, tupOf (isQ (cQ K) z.2.2.1) z.2.2.2]) (fun z => condC (z.1, z.2.1) ∧ condC (z.1, z.2.2) ∧ color z.2.1.2 (gens z.1) = color z.2.2.2 (gens z.1)) fun z => isB true) := by
  refine mkDef T.g_is_match T.k_is_match T.d_is_match scMatch (fun _ => rfl) (fun _ _ _ _ _ _ us hl => match us, hl with | [_, _, _], _ => rfl) fun cdv A outer s H vs Q E z hr fit hc k => ?_
  obtain ⟨vw, ⟨n, rs⟩, m, ts⟩ := z
  obtain ⟨c1, c2, c3⟩ := hc
  obtain ⟨x, y, z, rfl, hx, hy, hz⟩ := fit3 fit
  have hx : isView K vw x H := hx
  have hy : tupOf (isQ (cQ K) n) rs y H := hy
  have hz : tupOf (isQ (cQ K) m) ts z H := hz
  have c3 : color rs (gens vw) = color ts (gens vw) := c3
  obtain ⟨g, fd, ps, M, F, hB⟩ := ok_eq (Pg := Pg) (w := w) (base := base) T
  have monR : ∀ a b H H', Ext H H' → sameQ (cQ K) a b H → sameQ (cQ K) a b H' := fun a b H H' e ⟨n, q, h1, h2⟩ => ⟨n, q, Mo.mo (R := Same) e h1, Mo.mo (R := Same) e h2⟩
  refine b_ret (R := Same) (P := isB true) (ev_cmp (op_eqG (n := 2) (D := DTup _ (DIns (cQ K) (sameQ (cQ K)))) (rcG_tup (mon_ins monR) (eqG_ins F M.at_ M.fn hB pass0)) (hr.mono (by decide))) (ev_call (ok_color T) hr (vw, n, rs) c1 (ea_cons (ev_var 0 rfl hx) (ea_cons (ev_var 1 rfl hy) ea_nil))) (ev_call (ok_color T) hr (vw, m, ts) c2 (ea_cons (ev_var 0 rfl hx) (ea_cons (ev_var 2 rfl hz) ea_nil))) (fun u v H1 r pu pv Q' q => ?_)) fun u H1 s1 pv => k u H1 s1 pv
  obtain ⟨a, xs, rfl, ha, qa⟩ := pu
  obtain ⟨b, ys, rfl, hb, qb⟩ := pv
  refine ⟨⟨a, b, xs, ys, rfl, rfl, SqT.of ha, SqT.of hb, ?_, ?_⟩, fun H2 e => q _ _ e rfl⟩
  · rw [qa.1, qb.1]
    rfl
  · intro i u v hu hv
    obtain ⟨p, e1, f1⟩ := qa.get' hu
    obtain ⟨p2, e2, f2⟩ := qb.get' hv
    have ep : p = p2 := by
      have e3 : [(color rs (gens vw)).x, (color rs (gens vw)).y, (color rs (gens vw)).z][i]? = some p2 := by rw [c3]; exact e2
      have e1 : [(color rs (gens vw)).x, (color rs (gens vw)).y, (color rs (gens vw)).z][i]? = some p := e1
      rw [e1] at e3
      exact Option.some.inj e3
    subst ep
    obtain ⟨b1, a1, d1, rfl, h1⟩ := f1
    obtain ⟨b2, a2, d2, rfl, h2⟩ := f2
    exact ⟨a1, a2, d1, d2, _, _, rfl, rfl, h1, h2, _, p, ⟨b1, a1, d1, rfl, h1⟩, ⟨b1, a2, d2, rfl, h2⟩⟩
end
end Ly
/-! Plain mathematics: the fours, patterns, what changed gives. -/
namespace CM
set_option maxHeartbeats 4000000
set_option maxRecDepth 100000
def fkeep (f : List Nat) (b : Nat) : Bool := f.isEmpty || decide (f.getLastD 0 < b)
def fstep (n : Nat) (fs : List (List Nat)) : List (List Nat) := fs.flatMap fun f => ((List.range n).filter (fkeep f)).map fun b => f ++ [b]
def fit (n : Nat) : Nat → List (List Nat)
  | 0 => [[]]
  | k + 1 => fstep n (fit n k)
def fours (n : Nat) : List (List Nat) := fit n 4
def isAsc (n : Nat) : List Nat → Bool
  | [a, b, c, d] => decide (a < b) && (decide (b < c) && (decide (c < d) && decide (d < n)))
  | _ => false
theorem n47 {P : Nat → Prop} (h4 : P 4) (h5 : P 5) (h6 : P 6) (h7 : P 7) (n : Nat) (h1 : 4 ≤ n) (h2 : n ≤ 7) : P n := by
  have : n = 4 ∨ n = 5 ∨ n = 6 ∨ n = 7 := by omega
  rcases this with e | e | e | e <;> subst e <;> assumption
theorem fours_asc (n : Nat) (h1 : 4 ≤ n) (h2 : n ≤ 7) : (fours n).all (isAsc n) = true :=
  n47 (P := fun n => (fours n).all (isAsc n) = true) (by decide +kernel) (by decide +kernel) (by decide +kernel) (by decide +kernel) n h1 h2
theorem fours_get {n : Nat} (h1 : 4 ≤ n) (h2 : n ≤ 7) {f : List Nat} (h : f ∈ fours n) : ∃ a b c d, f = [a, b, c, d] ∧ a < b ∧ b < c ∧ c < d ∧ d < n := by
  have q := List.all_eq_true.mp (fours_asc n h1 h2) f h
  unfold isAsc at q
  split at q
  · simp only [Bool.and_eq_true, decide_eq_true_eq] at q
    exact ⟨_, _, _, _, rfl, q.1, q.2.1, q.2.2.1, q.2.2.2⟩
  · cases q
theorem fit_len (n : Nat) (h1 : 4 ≤ n) (h2 : n ≤ 7) (k : Nat) (hk : k ≤ 4) : (fit n k).length ≤ 100 := by
  have : (List.range 5).all (fun k => decide ((fit n k).length ≤ 100)) = true :=
    n47 (P := fun n => (List.range 5).all (fun k => decide ((fit n k).length ≤ 100)) = true) (by decide +kernel) (by decide +kernel) (by decide +kernel) (by decide +kernel) n h1 h2
  have q := List.all_eq_true.mp this k (by simp; omega)
  exact of_decide_eq_true q
end CM
set_option Elab.async false
set_option linter.all false
set_option maxRecDepth 100000
set_option maxHeartbeats 4000000
/-! fours_of: a comprehension of two clauses, four times. -/
namespace Ly
open PySem PySem.Spec PyProof.Rows L2
section
variable {X : Cx} {σ : SS} {H : Hp} {elt iter : Expr} {scope : Scope}
theorem lt_2 (j l : Nat) {vs vs1 : List Nat} {α β : Type} {F : α → HF} {G : β → HF} {as : List α} {a : Expr} {n : Nat} {tt1 : TT} (f : α → Nat → Bool) (g : α → Nat → β) (hG : ∀ b, Mo Nl (G b)) (hF : ∀ a, Mo Nl (F a)) (hn : as.length * n + n ≤ 100000)
    (ha : EV Same X iter σ H (lstOf F as))
    (hr : ∀ z v H2, z ∈ as → Same H H2 → F z v H2 → EVB X scope a ((wipe σ vs).set j (some v)) H2 (isI (n : Int)))
    (ht : ∀ z v (i : Nat) H2, z ∈ as → i < n → Same H H2 → F z v H2 → ∀ K : Bool → Hp → Prop, (∀ H3, Same H2 H3 → K (f z i) H3) → tt1 ((wipe ((wipe σ vs).set j (some v)) vs1).set l (some (.int (i : Int)))) H2 K)
    (he : ∀ z v (i : Nat) H2, z ∈ as → i < n → f z i = true → Same H H2 → F z v H2 → EVB X scope elt ((wipe ((wipe σ vs).set j (some v)) vs1).set l (some (.int (i : Int)))) H2 (G (g z i)))
    (hj : j ∈ vs) (hl : l ∈ vs1) :
    EVt (tLc2 (iList X.K (RE X iter)) (gName j) tYes (iRng1 (tCons (REB X scope a) tNil)) (gName l) tt1 (REB X scope elt) vs vs1) σ H (lstOf G (as.flatMap fun z => ((List.range n).filter (f z)).map (g z))) := by
  intro H1 r Q q
  refine ha H1 r _ fun v H2 r2 ⟨p, xs, e, hp, q2⟩ => ⟨p, e, ⟨xs, SqL.of hp⟩, fun D hD => ?_⟩
  have hx : xs.length = as.length := q2.1
  have mt0 : ∀ {H3 : Hp} {o : HO}, Same H2 H3 → Same H2 (upd H3 D o) := fun {H3 o} s b u hb => by
    rw [upd_ne (ne_of_none hb hD)]
    exact s b u hb
  have mG : ∀ b, Mo Same (G b) := fun b => @moS (G b) (hG b)
  have mF : ∀ b, Mo Same (F b) := fun b => @moS (F b) (hF b)
  refine ⟨fun i m H3 => m = xs.length - i ∧ i ≤ xs.length ∧ Same H2 H3 ∧ ∃ acc, H3 D = some (.lst acc) ∧ acc.length ≤ i * n ∧ All2 G acc ((as.take i).flatMap fun z => ((List.range n).filter (f z)).map (g z)) H3, ⟨xs.length, by simp, Nat.zero_le _, mt0 (Same.refl _), [], upd_same, Nat.zero_le _, by simp; exact All2.nil⟩, ?_⟩
  rintro i m H3 ⟨rfl, hi, s3, acc, hacc, hal, qa⟩
  by_cases hlt : i < xs.length
  · refine .inr ⟨⟨xs, xs[i], SqL.of (s3 _ _ hp), by simp [hlt]⟩, fun H' => i + 1 ≤ xs.length ∧ Same H2 H' ∧ ∃ acc, H' D = some (.lst acc) ∧ acc.length ≤ (i + 1) * n ∧ All2 G acc ((as.take (i + 1)).flatMap fun z => ((List.range n).filter (f z)).map (g z)) H', fun H' ⟨h1, h2, h3⟩ => ⟨xs.length - (i + 1), by omega, rfl, h1, h2, h3⟩, fun x H4 y => ?_⟩
    obtain ⟨rfl, hx2⟩ := y
    have hx2 := hx2 xs (SqL.of (s3 _ _ hp))
    obtain ⟨z, hz, fz⟩ := q2.get' hx2
    have hzm := List.mem_of_getElem? hz
    show wipe ((wipe σ vs).set j (some x)) vs = wipe σ vs ∧ _
    refine ⟨by rw [wipe_set hj, wipe_wipe], ?_⟩
    intro s0 H0 C cl fp
    refine hr z x _ hzm ((r.trans r2).trans s3) ((mF z).mo s3 fz) s0 H0 C cl fp _ (Same.refl _) _ fun w H5 s5 pw => ?_
    cases pw
    have hn2 : n ≤ 100000 := by omega
    refine ⟨(n : Int), rfl, by omega, by omega, ?_⟩
    rw [Int.toNat_natCast]
    have hin : i * n + n ≤ as.length * n + n := Nat.add_le_add_right (Nat.mul_le_mul_right n (by omega)) n
    refine ⟨fun k m H6 => m = n - k ∧ k ≤ n ∧ Same H2 H6 ∧ ∃ acc, H6 D = some (.lst acc) ∧ acc.length ≤ i * n + k ∧ All2 G acc (((as.take i).flatMap fun z => ((List.range n).filter (f z)).map (g z)) ++ ((List.range k).filter (f z)).map (g z)) H6, ⟨n, by simp, Nat.zero_le _, s3.trans s5, acc, s5 _ _ hacc, hal, by simp; exact All2.mo (h := mG) s5 qa⟩, ?_⟩
    rintro k m H6 ⟨rfl, hk, s6, acc6, h6, hl6, q6⟩
    by_cases hkl : k < n
    · refine .inr ⟨hkl, fun H' => k + 1 ≤ n ∧ Same H2 H' ∧ ∃ acc, H' D = some (.lst acc) ∧ acc.length ≤ i * n + (k + 1) ∧ All2 G acc (((as.take i).flatMap fun z => ((List.range n).filter (f z)).map (g z)) ++ ((List.range (k + 1)).filter (f z)).map (g z)) H', fun H' ⟨h1, h2, h3⟩ => ⟨n - (k + 1), by omega, rfl, h1, h2, h3⟩, fun x2 H7 y => ?_⟩
      obtain ⟨rfl, rfl⟩ := y
      have e0 : (0 : Int) + (k : Int) = (k : Int) := Int.zero_add _
      show wipe ((wipe ((wipe σ vs).set j (some x)) vs1).set l (some (V.int ((0 : Int) + (k : Int))))) vs1 = _ ∧ tt1 ((wipe ((wipe σ vs).set j (some x)) vs1).set l (some (V.int ((0 : Int) + (k : Int))))) _ _
      rw [e0]
      refine ⟨by rw [wipe_set hl, wipe_wipe], ht z x k _ hzm hkl ((r.trans r2).trans s6) ((mF z).mo s6 fz) _ fun H8 s8 => ?_⟩
      have q8 := All2.mo (h := mG) s8 q6
      have h8 := s8 _ _ h6
      cases hf : f z k with
      | false =>
        show _ ∧ _
        refine ⟨hkl, s6.trans s8, acc6, h8, by omega, ?_⟩
        have e1 : (List.range (k + 1)).filter (f z) = (List.range k).filter (f z) := by
          rw [List.range_succ, List.filter_append, List.filter_cons, if_neg (by rw [hf]; decide)]
          exact List.append_nil _
        rw [e1]
        exact q8
      | true =>
        show REB X scope elt _ H8 _
        intro s0 H0 C cl fp
        refine he z x k H8 hzm hkl hf ((r.trans r2).trans (s6.trans s8)) ((mF z).mo (s6.trans s8) fz) s0 H0 C cl fp H8 (Same.refl _) _ fun y H9 s9 py => ?_
        have q9 := All2.mo (h := mG) s9 q8
        have h9 := s9 _ _ h8
        refine ⟨acc6, h9, Nat.lt_of_lt_of_le (show acc6.length < 1000000 by omega) (by decide), hkl, mt0 ((s6.trans s8).trans s9), _, upd_same, by rw [List.length_append, List.length_singleton]; omega, ?_⟩
        have e1 : ((List.range (k + 1)).filter (f z)).map (g z) = ((List.range k).filter (f z)).map (g z) ++ [g z k] := by
          rw [List.range_succ, List.filter_append, List.map_append, List.filter_cons, if_pos (by rw [hf])]
          rfl
        rw [e1, ← List.append_assoc]
        exact All2.mo (R := Nl) (h := hG) (nl_upd h9) (q9.snoc py)
    · have ek : k = n := by omega
      subst ek
      refine .inl ⟨Nat.le_refl _, hlt, s6, acc6, h6, by rw [Nat.succ_mul]; omega, ?_⟩
      rw [List.take_add_one, hz]
      show All2 G acc6 ((as.take i ++ [z]).flatMap _) H6
      rw [List.flatMap_append]
      simpa using q6
  · have e : i = xs.length := by omega
    subst e
    refine .inl ⟨⟨xs, SqL.of (s3 _ _ hp), Nat.le_refl _⟩, q _ _ (r2.trans s3) ⟨D, acc, rfl, hacc, ?_⟩⟩
    rw [hx, List.take_length] at qa
    exact qa
end
abbrev isN (b : Nat) : HF := isI (b : Int)
abbrev isFour (f : List Nat) : HF := tupOf isN f
theorem moFour (f : List Nat) : Mo Nl (isFour f) := inferInstance
section
variable {R : Hp → Hp → Prop} {X : Cx} {σ : SS} {H H' : Hp} {P P' Pa Pb Pc : HF} {D : Ends} [Rel R] {a b : Expr} {es : List Expr} {pos p apos : Pos}
theorem layI : ∀ f : List Int, PyData.canLayAll0 (f.map PyData.int) = true
  | [] => rfl
  | i :: f => by
    rw [List.map_cons, PyData.canLayAll0, layI f]
    simp [PyData.canLay0]
theorem depI : ∀ f : List Int, PyData.depthAll (f.map PyData.int) ≤ 1
  | [] => by simp [PyData.depthAll]
  | i :: f => by
    have := depI f
    simp only [List.map_cons, PyData.depthAll, PyData.depth]
    omega
theorem shapedI (f : List Int) : SeqAt.shaped (.tuple (f.map PyData.int)) = true := by
  have h := depI f
  have h2 : PyData.depth (.tuple (f.map PyData.int)) ≤ 64 := by
    simp only [PyData.depth]
    omega
  show (PyData.canLay0 (.tuple (f.map PyData.int)) && decide (PyData.depth (.tuple (f.map PyData.int)) ≤ 64)) = true
  rw [Bool.and_eq_true]
  exact ⟨by simp only [PyData.canLay0]; exact layI f, decide_eq_true h2⟩
theorem eqvI : ∀ f g : List Int, PyData.eqvAll (f.map PyData.int) (g.map PyData.int) = decide (f = g)
  | [], [] => by simp [PyData.eqvAll]
  | [], _ :: _ => by simp [PyData.eqvAll]
  | _ :: _, [] => by simp [PyData.eqvAll]
  | i :: f, j :: g => by
    rw [List.map_cons, List.map_cons, PyData.eqvAll, eqvI f g]
    have e : PyData.eqv (PyData.int i) (PyData.int j) = (i == j) := by simp [PyData.eqv]
    rw [e, Bool.eq_iff_iff]
    simp
theorem eqvT (f g : List Int) : PyData.eqv (.tuple (f.map PyData.int)) (.tuple (g.map PyData.int)) = decide (f = g) := by
  rw [PyData.eqv, eqvI]
theorem dpI {K : PySem.W.Frag} {H : Hp} : ∀ {xs : List V} {f : List Int}, All2 isI xs f H → DpAll K H xs (f.map PyData.int)
  | [], [], _ => .nil
  | [], _ :: _, h => by cases h.1
  | _ :: _, [], h => by cases h.1
  | x :: xs, b :: f, h => by
    have h0 : isI b x H := h.2 0 x b rfl rfl
    cases h0
    exact .cons (.int _) (dpI ⟨by simpa using h.1, fun i y c h1 h2 => h.2 (i + 1) y c (by simpa using h1) (by simpa using h2)⟩)
theorem dpT {K : PySem.W.Frag} {H : Hp} {x : V} {f : List Int} (h : tupOf isI f x H) : Dp K H x (.tuple (f.map PyData.int)) := by
  obtain ⟨a, xs, rfl, ha, q⟩ := h
  exact .tup (SqT.of ha) (dpI q)
theorem four_int {f : List Nat} {v : V} {H : Hp} (h : isFour f v H) : tupOf isI (f.map fun b : Nat => (b : Int)) v H := by
  obtain ⟨a, xs, rfl, ha, q⟩ := h
  refine ⟨a, xs, rfl, ha, by rw [q.1, List.length_map], fun i x b h1 h2 => ?_⟩
  rw [List.getElem?_map] at h2
  obtain ⟨c, h3, h4⟩ := q.get' h1
  rw [h3] at h2
  cases h2
  exact h4
theorem un_neg1 {i : Int} (ha : EV R X a σ H (isI i)) : EV R X (.UnaryOp .USub a pos) σ H (isI (-i)) :=
  EV.by (pe_un un_neg pe_re) fun H1 r Q q => ha H1 r _ fun x H2 r2 px => ⟨i, px, q _ _ r2 rfl⟩
theorem at_lastN {f : List Nat} (h : f ≠ []) : atI f (-1) = some (f.getLastD 0) := by
  obtain ⟨g, z, rfl⟩ : ∃ g z, f = g ++ [z] := ⟨f.dropLast, f.getLast h, (List.dropLast_concat_getLast h).symm⟩
  rw [atI_last]
  simp
/-- t + (b,) -/
theorem ev_snoc {f : List Nat} {c : Nat} (hf : f.length ≤ 1000) (ha : EV R X a σ H (isFour f)) (hb : EV R X b σ H (isFour [c])) : EV R X (.BinOp a .Add b pos) σ H (isFour (f ++ [c])) :=
  ev_op op_catA ha hb fun x y H1 r ⟨u, xs, eu, hu, qu⟩ ⟨v, ys, ev, hv, qv⟩ Q q => by
    have hl : xs.length = f.length := qu.1
    have hl2 : ys.length = 1 := qv.1
    refine ⟨u, v, xs, ys, eu, ev, SqT.of hu, SqT.of hv, Nat.le_trans (show _ ≤ 1001 by omega) (by decide), fun e => ?_, fun _ e => (by rw [e] at hl2; cases hl2), fun _ _ p hp => ?_⟩
    · subst e
      have : f = [] := List.eq_nil_of_length_eq_zero hl.symm
      subst this
      exact q _ _ (Rel.rf _) ⟨v, ys, rfl, hv, qv⟩
    · refine q _ _ (Rel.sm (smn hp)) ⟨p, _, rfl, upd_same, ?_⟩
      match ys, hl2 with
      | [y1], _ => exact (qu.mo (R := Same) (smn hp)).snoc (Mo.mo (R := Same) (smn hp) (qv.2 0 y1 c rfl rfl))
end
section
variable {Pg : Program} {w : World} {K : PySem.W.Frag} {mg : Str → Option Value} {base : Heap}
abbrev nFours : List Str := ["count", "found", "_", "four", "band"]
theorem scFours : FnScope nFours ["count"] (defScope sfours_of) := ⟨rfl, rfl, rfl, by decide +kernel, rfl, by decide +kernel, by decide +kernel⟩
theorem fkeep_len {n k : Nat} : ∀ f ∈ CM.fit n k, f.length = k := by
  induction k with
  | zero => intro f hf; simp [CM.fit] at hf; rw [hf]; rfl
  | succ k ih =>
    intro f hf
    simp only [CM.fit, CM.fstep, List.mem_flatMap, List.mem_map] at hf
    obtain ⟨g, hg, b, _, rfl⟩ := hf
    rw [List.length_append, ih g hg]
    rfl
theorem ok_fours (T : Tx K mg) : DefOk Pg w K mg base "fours_of" 2 (spF (fun n : Nat => [isN n]) (fun n => 4 ≤ n ∧ n ≤ 7) fun n => lstOf isFour (CM.fours n)) := by
  refine mkDef T.g_fours_of T.k_fours_of T.d_fours_of scFours (fun _ => rfl) (fun _ _ _ _ _ _ us hl => match us, hl with | [_], _ => rfl) fun cdv A outer s H vs Q E n hr fit hc k => ?_
  obtain ⟨c1, c2⟩ := hc
  obtain ⟨_, rfl, rfl⟩ := fit1 fit
  refine b_set (R := Same) 1 (ev_lstU (F := isFour) (as := [[]]) (ea_cons (ev_tupU (F := isN) (as := []) ea_nil (fun _ => inferInstance)) ea_nil) (fun _ => inferInstance)) (fun v H1 s1 pv => ?_) scFours.nd
  refine b_forR1 (R := Same) 2 ev_int (by decide) T.n_range (fun i σ H2 => ∃ v a, σ = [some (.int (n : Int)), some v, a, none, none] ∧ lstOf isFour (CM.fit n i) v H2 ∧ Same H H2) (fun H2 s2 => ⟨v, none, rfl, Mo.mo (R := Same) s2 pv, s1.trans s2⟩) (fun i σ H2 hi hW => ?_) (fun σ H2 hW => ?_) scFours.nd PassesOwn.never
  · obtain ⟨v, a, rfl, hv, s2⟩ := hW
    have hlen := CM.fit_len n c1 c2 i (by omega)
    refine RSs.cons (RS.of (ps_setLc2 (i := 1) (own := [("four", 3), ("band", 4)]) (vs1 := [4]) rfl scFours.nd rfl rfl (by kernel_rfl) (pi_list pe_re) (blkOk_by (N := nFours) (sc := defScope sfours_of) (by decide +kernel)) (by decide)
      (fun _ _ _ _ _ => pg_name (i := 3) scFours.nd rfl (Or.inl rfl)) (fun _ _ _ _ _ => pts_nil) (fun _ _ _ _ _ => pi_range1 rfl T.n_range (pa_cons (pe_reb _ _ _ _ _) pa_nil)) (fun _ _ _ _ _ => pg_name (i := 4) scFours.nd rfl (Or.inl rfl)) (fun s H0 C cl fp => pt_rtb s H0 C cl fp) pe_reb)
      (lt_2 3 4 (F := isFour) (G := isFour) (as := CM.fit n i) (n := n) CM.fkeep (fun f b => f ++ [b]) moFour moFour ?_ (ev_var 1 rfl hv) (fun z v H3 _ _ _ => fun s0 H0 C cl fp => ev_vv 0 rfl) (fun z v b H3 hz hb s3 fv K k => tt_one (b := CM.fkeep z b) (fun s0 H0 C cl fp => ?_) k) (fun z v b H3 hz hb hf s3 fv => fun s0 H0 C cl fp => ?_) (by decide) (by decide) H2 (Same.refl _) _ fun u H3 s3 pu => RSs.nil ⟨u, _, rfl, pu, s2.trans s3⟩))
    · have : (CM.fit n i).length * n ≤ 100 * 7 := Nat.mul_le_mul hlen c2
      omega
    · have hzl := fkeep_len z hz
      refine et_w (ew_or (et_cmp (p := (· = z.isEmpty)) (op_eqD (hr.units)) (ev_var 3 rfl fv) (ev_tupU (F := isN) (as := []) ea_nil (fun _ => inferInstance)) (fun x y H4 r ⟨u, xs, eu, hu, qu⟩ ⟨u2, ys, ev, hv, qv⟩ Q q => ?_)) (fun he => ew_or1 (et_c0 op_lt (ev_ixT (z := z.getLastD 0) (ev_var 3 rfl fv) (un_neg1 ev_int) (at_lastN ?_)) (ev_vv 4 rfl))) (fun he => ?_) (fun t he ht => ?_))
      · have h1 := four_int (f := z) ⟨u, xs, eu, hu, qu⟩
        have h2 : tupOf isI [] y H4 := ⟨u2, ys, ev, hv, by have := qv.1; exact ⟨this, fun i x a h => by rw [List.eq_nil_of_length_eq_zero this] at h; simp at h⟩⟩
        refine ⟨_, _, dpT h1, dpT h2, shapedI _, shapedI [], q _ _ (Rel.rf _) ⟨_, ?_, rfl⟩⟩
        rw [eqvT]
        cases z <;> simp
      · intro e
        subst e
        cases he
      · unfold CM.fkeep
        rw [← he]
        rfl
      · rw [ht]
        unfold CM.fkeep
        rw [← he]
        simp
    · exact ev_snoc (by have := fkeep_len z hz; omega) (ev_var 3 rfl fv) (ev_tupU (F := isN) (as := [b]) (ea_cons (ev_vv 4 rfl) ea_nil) (fun _ => inferInstance))
  · obtain ⟨v, a, rfl, hv, s2⟩ := hW
    exact b_ret (R := Same) (ev_var 1 rfl hv) fun u H3 s3 pu => k u H3 (s2.trans s3) pu
end
end Ly
set_option Elab.async false
set_option linter.all false
set_option maxRecDepth 100000
set_option maxHeartbeats 4000000
/-! The layer, further: loops over pairs, fresh lists. -/
namespace Ly
open PySem PySem.Spec PyProof.Rows L2
section
variable {R : Hp → Hp → Prop} {X : Cx} {σ : SS} {H H' : Hp} {P P' Pa Pb Pc : HF} {D : Ends} [Rel R] {e a b c : Expr} {es : List Expr} {pos p pos' apos : Pos} {x m : Str} {rest body els : List Stmt}
/-- for i, x in enumerate(t), t a tuple -/
theorem b_forE (j l : Nat) {y z : Str} {py pz pt : Pos} {kt : Nat} (hm : X.mg "enumerate" = none) (ha : EV R X a σ H Pa) (hP : ∀ v H1, R H H1 → Pa v H1 → ∃ p xs, ∃ Pv : Nat → SS → Hp → Prop, v = .ref p ∧ H1 p = some (.tup xs) ∧ Pv 0 σ H1 ∧ (∀ i σ1 H2, Pv i σ1 H2 → H2 p = some (.tup xs)) ∧
      (∀ (i : Nat) x σ1 H1 H2, xs[i]? = some x → Pv i σ1 H1 → Same H1 H2 → RSs X body { D with nx := Pv (i + 1), ct := Pv (i + 1), bk := RSs X rest D } ((σ1.set j (some (.int (i : Int)))).set l (some x)) H2) ∧ ∀ σ1 H1, Pv xs.length σ1 H1 → RSs X rest D σ1 H1)
    (hg : PG X (.Tuple [.Name y py, .Name z pz] kt pt) (gTup X.K 2 (gCons (gName j) (gCons (gName l) gNil)))) (hp : PassesOwn (model X.prog X.w) X.A X.env X.xe) (hc : X.calm = true := by rfl) (hgr : Gl X "enumerate" := by rfl)
    (hst : starEach [a] X.env = [(false, eval a X.env)] := by rfl) (hfs : ∀ x, foldedSetIterable (.Call (.Name "enumerate" p) [a] [] pos') X.env x = pure x := by intro _; rfl) :
    RSs X (.For (.Tuple [.Name y py, .Name z pz] kt pt) (.Call (.Name "enumerate" p) [a] [] pos') body [] pos :: rest) D σ H := by
  refine b_forW hp hc (pi_enumT hgr hm (pa_cons pe_re pa_nil hst) hst) hg hfs ?_ fun Q Q' k h => re_mono (fun v H1 ⟨p, xs, e, hx, q⟩ => ⟨p, xs, e, hx, k _ _ q⟩) h
  refine ha H (Rel.rf _) _ fun v H1 r pv => ?_
  obtain ⟨p, xs, Pv, e, hp, z0, zs, hs, hd⟩ := hP v H1 r pv
  subst e
  refine ⟨p, xs, rfl, SqT.of hp, xs.length, _, _, walk_enumT, Pv, z0, fun i σ1 H2 _ pv => SqT.of (zs i σ1 H2 pv), fun i x σ1 H2 H3 hi pv y => ?_, hd⟩
  obtain ⟨T, x, z, rfl, hT, rfl, h4, h5⟩ := y
  cases h4
  exact g_pair upd_same (hs i z σ1 H2 _ h5 pv (smn hT))
/-- for a, b in zip(l, m), two lists of one length -/
theorem b_forZL (j l : Nat) {y z : Str} {py pz pt : Pos} {kt : Nat} (hm : X.mg "zip" = none) (ha : EA R X [a, b] σ H [Pa, Pb]) (hP : ∀ u v H1, R H H1 → Pa u H1 → Pb v H1 → ∃ p q xs ys, ∃ Pv : Nat → SS → Hp → Prop, u = .ref p ∧ v = .ref q ∧ H1 p = some (.lst xs) ∧ H1 q = some (.lst ys) ∧ xs.length = ys.length ∧ Pv 0 σ H1 ∧
      (∀ i σ1 H2, Pv i σ1 H2 → H2 p = some (.lst xs) ∧ H2 q = some (.lst ys)) ∧
      (∀ (i : Nat) x y σ1 H1 H2, xs[i]? = some x → ys[i]? = some y → Pv i σ1 H1 → Same H1 H2 → RSs X body { D with nx := Pv (i + 1), ct := Pv (i + 1), bk := RSs X rest D } ((σ1.set j (some x)).set l (some y)) H2) ∧ ∀ σ1 H1, Pv xs.length σ1 H1 → RSs X rest D σ1 H1)
    (hg : PG X (.Tuple [.Name y py, .Name z pz] kt pt) (gTup X.K 2 (gCons (gName j) (gCons (gName l) gNil)))) (hp : PassesOwn (model X.prog X.w) X.A X.env X.xe) (hc : X.calm = true := by rfl) (hgr : Gl X "zip" := by rfl)
    (hst : starEach [a, b] X.env = (false, eval a X.env) :: starEach [b] X.env := by rfl) (hpl : (backTo pos' (starEach [b] X.env)).any (·.1) = false := by rfl) (hfs : ∀ x, foldedSetIterable (.Call (.Name "zip" p) [a, b] [] pos') X.env x = pure x := by intro _; rfl) :
    RSs X (.For (.Tuple [.Name y py, .Name z pz] kt pt) (.Call (.Name "zip" p) [a, b] [] pos') body [] pos :: rest) D σ H := by
  refine b_forW hp hc (RZ.pi_zipA hgr hm pa_ra hst hpl) hg hfs ?_ fun Q Q' k h => ra_mono (fun v H1 ⟨p, q, xs, ys, e, h⟩ => ⟨p, q, xs, ys, e, h.elim (fun ⟨h1, h2, q⟩ => .inl ⟨h1, h2, k _ _ q⟩) fun ⟨h1, h2, q⟩ => .inr ⟨h1, h2, k _ _ q⟩⟩) h
  refine ha H (Rel.rf _) _ fun vs H1 r fit => ?_
  obtain ⟨u, v, rfl, pu, pv⟩ := fit2 fit
  obtain ⟨p, q, xs, ys, Pv, e, e2, hp, hq, hl, z0, zs, hs, hd⟩ := hP u v H1 r pu pv
  subst e e2
  refine ⟨p, q, xs, ys, rfl, .inl ⟨SqL.of hp, SqL.of hq, xs.length, _, _, walk_zip (by omega), Pv, z0, fun i σ1 H2 _ pv => ⟨SqL.of (zs i σ1 H2 pv).1, SqL.of (zs i σ1 H2 pv).2⟩, fun i x σ1 H2 H3 hi pv y => ?_, hd⟩⟩
  obtain ⟨T, x, z, rfl, hT, rfl, h4, h5⟩ := y
  exact g_pair upd_same (hs i x z σ1 H2 _ h4 h5 pv (smn hT))
/-- what is fresh behind is fresh ahead -/
class Frs (R : Hp → Hp → Prop) : Prop where
  fr : ∀ {H H1 a}, R H H1 → H1 a = none → H a = none
instance : Frs Same := ⟨fun e h => Same.free e h⟩
/-- a list that H does not know -/
def lstF {α : Type} (H0 : Hp) (F : α → HF) (as : List α) : HF := fun v H => ∃ a xs, v = .ref a ∧ H0 a = none ∧ H a = some (.lst xs) ∧ All2 F xs as H
theorem ev_listF [Frs R] {α : Type} {F : α → HF} {as : List α} (hm : X.mg "list" = none) (ha : EV R X e σ H (tupOf F as)) [Mo R (tupOf F as)] (hF : ∀ a, Mo Same (F a)) (hg : Gl X "list" := by rfl) (he : starEach [e] X.env = (false, eval e X.env) :: starEach [] X.env := by rfl) : EV R X (.Call (.Name "list" p) [e] [] pos) σ H (lstF H F as) :=
  ev_t1 call_list_of hm (by decide +kernel) (ea_cons ha ea_nil he) (fun vs H1 r fit Q q => by
    obtain ⟨v, rfl, a, xs, rfl, ha, q2⟩ := fit1 fit
    exact ⟨_, xs, rfl, .inr (SqT.of ha), fun l hl => q _ _ (Rel.sm (smn hl)) ⟨l, xs, rfl, Frs.fr r hl, upd_same, q2.mo (R := Same) (smn hl)⟩⟩) hg (by decide) (by decide) he
/-- [] -/
theorem ev_nilF [Frs R] {α : Type} {F : α → HF} : EV R X (.List [] pos) σ H (lstF H F []) :=
  EV.by (pe_lst pa_nil) fun H1 r Q k => ⟨Nat.zero_le _, fun p hp => k _ _ (Rel.sm (smn hp)) ⟨p, [], rfl, Frs.fr r hp, upd_same, .nil⟩⟩
end
end Ly
/-! Plain mathematics: rooms, determinants, the change. -/
namespace CM
set_option maxHeartbeats 4000000
def odet (gs : List V3) (f : List Nat) (idx : Nat) : Rat :=
  let g := fun i => gs.getD (f.getD i 0) default
  match idx with
  | 0 => det3 (g 1) (g 2) (g 3)
  | 1 => det3 (g 0) (g 2) (g 3)
  | 2 => det3 (g 0) (g 1) (g 3)
  | _ => det3 (g 0) (g 1) (g 2)
def room (r : Rat) (up : Bool) : Rat := if up = true then 1 - r else r
def evn (i : Nat) : Bool := decide (i % 2 = 0)
def rooms (rs : List Rat) (f : List Nat) (up : Bool) : List Rat := (List.range 4).map fun i => room (rs.getD (f.getD i 0) default) (up == evn i)
def dets (gs : List V3) (f : List Nat) : List Rat := (List.range 4).map (odet gs f)
/-- the least of room / determinant, as it is found -/
def lstep (s : Rat) (z : Rat × Rat) : Rat := if z.1 / z.2 < s then z.1 / z.2 else s
def stepTo (rms ds : List Rat) (i : Nat) : Rat := ((rms.zip ds).take i).foldl lstep (rms.getD 0 default / ds.getD 0 default)
def stepOf (rms ds : List Rat) : Rat := stepTo rms ds 4
def mv (r s d : Rat) (up : Bool) : Rat := if up = true then r + s * d else r - s * d
def mvp (m : Nat) (rs : List Rat) (f : List Nat) (ds : List Rat) (s : Rat) (up : Bool) (i : Nat) : Nat × Rat := (m, mv (rs.getD (f.getD i 0) default) s (ds.getD i default) (up == evn i))
def valsN (n m : Nat) (rs : List Rat) (f : List Nat) (ds : List Rat) (s : Rat) (up : Bool) : Nat → List (Nat × Rat)
  | 0 => rs.map fun r => (n, r)
  | i + 1 => (valsN n m rs f ds s up i).set (f.getD i 0) (mvp m rs f ds s up i)
def chgW (rs : List Rat) (f : List Nat) (ds : List Rat) (s : Rat) (up : Bool) : Nat → List Rat
  | 0 => rs
  | i + 1 => (chgW rs f ds s up i).set (f.getD i 0) (mv (rs.getD (f.getD i 0) default) s (ds.getD i default) (up == evn i))
def chg (rs : List Rat) (gs : List V3) (f : List Nat) (up : Bool) : List Rat := chgW rs f (dets gs f) (stepOf (rooms rs f up) (dets gs f)) up 4
theorem valsN_snd (n m : Nat) (rs : List Rat) (f : List Nat) (ds : List Rat) (s : Rat) (up : Bool) : ∀ i, (valsN n m rs f ds s up i).map (·.2) = chgW rs f ds s up i
  | 0 => by
    show (rs.map fun r => (n, r)).map (·.2) = rs
    rw [List.map_map]
    exact List.map_id rs
  | i + 1 => by
    show ((valsN n m rs f ds s up i).set _ _).map (·.2) = _
    rw [List.map_set, valsN_snd n m rs f ds s up i]
    rfl
theorem valsN_len (n m : Nat) (rs : List Rat) (f : List Nat) (ds : List Rat) (s : Rat) (up : Bool) : ∀ i, (valsN n m rs f ds s up i).length = rs.length
  | 0 => by simp [valsN]
  | i + 1 => by simp [valsN, valsN_len n m rs f ds s up i]
theorem valsN_le {n m : Nat} (h : n ≤ m) (rs : List Rat) (f : List Nat) (ds : List Rat) (s : Rat) (up : Bool) : ∀ i, ∀ z ∈ valsN n m rs f ds s up i, z.1 ≤ m
  | 0, z, hz => by
    obtain ⟨r, _, rfl⟩ := List.mem_map.mp (show z ∈ rs.map fun r => (n, r) from hz)
    exact h
  | i + 1, z, hz => by
    rcases List.mem_or_eq_of_mem_set (show z ∈ (valsN n m rs f ds s up i).set (f.getD i 0) (mvp m rs f ds s up i) from hz) with h1 | h1
    · exact valsN_le h rs f ds s up i z h1
    · rw [h1]
      exact Nat.le_refl _
/-- the bands of a four are not yet changed when their turn comes -/
theorem valsN_at {n m : Nat} {rs : List Rat} {a b c d : Nat} (h1 : a < b) (h2 : b < c) (h3 : c < d) (h4 : d < rs.length) (ds : List Rat) (s : Rat) (up : Bool) (i : Nat) (hi : i < 4) : (valsN n m rs [a, b, c, d] ds s up i)[[a, b, c, d].getD i 0]? = some (n, rs.getD ([a, b, c, d].getD i 0) default) := by
  have base : ∀ k, k < rs.length → (rs.map fun r => (n, r))[k]? = some (n, rs.getD k default) := fun k hk => by
    rw [List.getElem?_map, List.getElem?_eq_getElem hk, List.getD_eq_getElem?_getD, List.getElem?_eq_getElem hk]
    rfl
  have cases4 : i = 0 ∨ i = 1 ∨ i = 2 ∨ i = 3 := by omega
  rcases cases4 with e | e | e | e <;> subst e
  · exact base a (by omega)
  · show ((rs.map fun r => (n, r)).set a _)[b]? = _
    rw [List.getElem?_set_ne (by omega)]
    exact base b (by omega)
  · show (((rs.map fun r => (n, r)).set a _).set b _)[c]? = _
    rw [List.getElem?_set_ne (by omega), List.getElem?_set_ne (by omega)]
    exact base c (by omega)
  · show ((((rs.map fun r => (n, r)).set a _).set b _).set c _)[d]? = _
    rw [List.getElem?_set_ne (by omega), List.getElem?_set_ne (by omega), List.getElem?_set_ne (by omega)]
    exact base d h4
/-- whether a four's bands have room in this direction -/
def okF (rs : List Rat) (f : List Nat) (up : Bool) : Bool := (rooms rs f up).all fun r => decide (0 < r)
theorem stepTo_succ {rms ds : List Rat} {i : Nat} {r d : Rat} (h1 : rms[i]? = some r) (h2 : ds[i]? = some d) : stepTo rms ds (i + 1) = lstep (stepTo rms ds i) (r, d) := by
  unfold stepTo
  have e : (rms.zip ds)[i]? = some (r, d) := by rw [List.getElem?_zip_eq_some]; exact ⟨h1, h2⟩
  rw [List.take_add_one, e]
  show List.foldl lstep _ ((rms.zip ds).take i ++ [(r, d)]) = _
  rw [List.foldl_append]
  rfl
end CM
set_option Elab.async false
set_option linter.all false
set_option maxRecDepth 100000
set_option maxHeartbeats 4000000
/-! other_det, rooms, changed. -/
namespace Ly
open PySem PySem.Spec PyProof.Rows L2
section
variable {Pg : Program} {w : World} {K : PySem.W.Frag} {mg : Str → Option Value} {base : Heap}
abbrev nOdet : List Str := ["vectors", "four", "index", "first", "second", "third", "place", "band"]
theorem scOdet : FnScope nOdet ["vectors", "four", "index"] (defScope sother_det) := ⟨rfl, rfl, rfl, by decide +kernel, rfl, by decide +kernel, by decide +kernel⟩
/-- a four: four bands in their order -/
def Four (n : Nat) (f : List Nat) : Prop := ∃ a b c d, f = [a, b, c, d] ∧ a < b ∧ b < c ∧ c < d ∧ d < n
theorem Four.len {n : Nat} {f : List Nat} (h : Four n f) : f.length = 4 := by
  obtain ⟨a, b, c, d, rfl, _⟩ := h
  rfl
theorem Four.lt {n : Nat} {f : List Nat} (h : Four n f) (i : Nat) : f.getD i 0 < n := by
  obtain ⟨a, b, c, d, rfl, h1, h2, h3, h4⟩ := h
  match i with
  | 0 => show a < n; omega
  | 1 => show b < n; omega
  | 2 => show c < n; omega
  | 3 => exact h4
  | k + 4 => show 0 < n; omega
theorem four_at {f : List Nat} {xs : List V} {H : Hp} (q : All2 isN xs f H) {i : Nat} {x : V} (h : xs[i]? = some x) : x = .int ((f.getD i 0 : Nat) : Int) ∧ i < f.length := by
  obtain ⟨b, h1, h2⟩ := q.get' h
  refine ⟨?_, (List.getElem?_eq_some_iff.mp h1).1⟩
  rw [getD_some h1]
  exact h2
theorem ok_odet (T : Tx K mg) : DefOk Pg w K mg base "other_det" 6 (spF (fun z : List CM.V3 × List Nat × Nat => [tupOf (isVec (cQ K) 14) z.1, isFour z.2.1, isN z.2.2]) (fun z => Four z.1.length z.2.1 ∧ z.2.2 < 4) fun z => isQ (cQ K) 215 (CM.odet z.1 z.2.1 z.2.2)) := by
  refine mkDef T.g_other_det T.k_other_det T.d_other_det scOdet (fun _ => rfl) (fun _ _ _ _ _ _ us hl => match us, hl with | [_, _, _], _ => rfl) fun cdv A outer s H vs Q E z hr fit hc k => ?_
  obtain ⟨gs, f, idx⟩ := z
  obtain ⟨c1, c2⟩ := hc
  have c1 : Four gs.length f := c1
  have c2 : idx < 4 := c2
  obtain ⟨x, y, _, rfl, hx, hy, rfl⟩ := fit3 fit
  have hx : tupOf (isVec (cQ K) 14) gs x H := hx
  have hy : isFour f y H := hy
  obtain ⟨py, ys, rfl, hpy, qy⟩ := id hy
  have hly : ys.length = 4 := by rw [qy.1, c1.len]
  have fin : ∀ u v t : CM.V3, kept (fun i => !decide (i = idx)) (fun i => gs.getD (f.getD i 0) default) 4 = [u, v, t] → CM.odet gs f idx = CM.det3 u v t → RSs (cxOf CX0 Pg w K mg base nOdet "other_det" (defScope sother_det) (He.ga K "other_det") cdv A outer s H E).nox (defBody sother_det) { nx := fun _ H' => Q .non H', rt := Q } (start nOdet [x, .ref py, .int (idx : Int)]) H := by
    intro u v t e1 e2
    refine b_unl3 (R := Same) 3 4 5 (F := isVec (cQ K) 14) (u := u) (v := v) (w := t) (EV.imp (ev_lcE 6 7 (own := [("place", 6), ("band", 7)]) (xs := ys) (tt := RTB _ _ _) (fun i => !decide (i = idx)) (fun i => gs.getD (f.getD i 0) default) (isVec (cQ K) 14) moVec (by omega) T.n_enumerate (ev_var 1 rfl (show tupAt ys (.ref py) H from ⟨py, rfl, hpy⟩))
      (fun i v H2 hv s2 K k => tt_one (b := !decide (i = idx)) (fun s0 H0 C cl fp => et_is (et_ne (ev_vv 6 rfl) (ev_vv 2 rfl)) (by
        congr 1
        rw [Bool.eq_iff_iff]
        simp
        omega)) k)
      (fun i v H2 hv hf s2 => fun s0 H0 C cl fp => by
        obtain ⟨ev, hi⟩ := four_at qy hv
        subst ev
        have hlt := c1.lt i
        refine ev_ixT (ev_var 0 rfl (Mo.mo (R := Same) s2 hx)) (ev_vv 7 rfl) (at_nat ?_)
        have eg := List.getElem?_eq_getElem hlt
        rw [getD_some eg]
        exact eg)
      scOdet.nd (fun s H0 C cl fp => pt_rtb s H0 C cl fp) (blkOk_by (N := nOdet) (sc := defScope sother_det) (by decide +kernel)) (by decide) (by decide) (fun _ _ _ _ _ => pg_tup rfl (pgs_cons (pg_name (i := 6) scOdet.nd rfl (Or.inl rfl)) (pgs_cons (pg_name (i := 7) scOdet.nd rfl (Or.inl rfl)) pgs_nil)))) (fun v H1 _ p => by rw [hly, e1] at p; exact p)) (fun a b c H1 s1 ha hb hc => ?_) scOdet.nd
    refine b_ret (R := Same) (ev_call (ok_det T) (hr.mono (by decide)) (14, u, v, t) (by show 14 ≤ 400; decide) (ea_cons (ev_var 3 rfl ha) (ea_cons (ev_var 4 rfl hb) (ea_cons (ev_var 5 rfl hc) ea_nil)))) fun r H2 s2 pr => k r H2 (s1.trans s2) ?_
    show isQ (cQ K) 215 (CM.odet gs f idx) r H2
    rw [e2]
    exact pr
  have cases4 : idx = 0 ∨ idx = 1 ∨ idx = 2 ∨ idx = 3 := by omega
  rcases cases4 with e | e | e | e <;> subst e <;> exact fin _ _ _ rfl rfl
end
end Ly
set_option Elab.async false
set_option linter.all false
set_option maxRecDepth 100000
set_option maxHeartbeats 4000000
/-! Rooms, the change. -/
namespace Ly
open PySem PySem.Spec PyProof.Rows L2
section
variable {R : Hp → Hp → Prop} {X : Cx} {σ : SS} {H H' : Hp} {P P' Pa Pb Pc : HF} {D : Ends} [Rel R] {e a b c : Expr} {es : List Expr} {pos p apos : Pos}
theorem ev_is {u v : V} (h : EV R X e σ H (isV u)) (k : u = v) : EV R X e σ H (isV v) := by subst k; exact h
/-- index % 2 == 0 -/
theorem ev_evn {i : Nat} (ha : EV R X a σ H (isN i)) {j k : Nat} {p1 p2 : Pos} : EV R X (.Compare (.BinOp a .Mod (.Constant (.int 2) j p1) pos) [.Eq] [.Constant (.int 0) k p2] p) σ H (isB (CM.evn i)) :=
  ev_is (ev_eq (ev_i1 op_mod (by decide) ha ev_int) ev_int) (by
    unfold CM.evn
    congr 1
    rw [Bool.eq_iff_iff]
    simp
    omega)
theorem ix_nat {n j : Nat} (h : j < n) : ixN n (j : Int) = some j := by
  unfold ixN
  rw [if_pos (by omega), if_pos (by omega)]
  rfl
/-- a thing of the heap at its place -/
def atP (p : Addr) (o : HO) : HF := fun v H => v = .ref p ∧ H p = some o
instance {p : Addr} {o : HO} : Mo Same (atP p o) := ⟨fun e h => ⟨h.1, e _ _ h.2⟩⟩
end
section
variable {Pg : Program} {w : World} {K : PySem.W.Frag} {mg : Str → Option Value} {base : Heap}
theorem scRoom : FnScope ["value", "up"] ["value", "up"] (defScope sroom_of) := ⟨rfl, rfl, rfl, by decide +kernel, rfl, by decide +kernel, by decide +kernel⟩
theorem ok_room (T : Tx K mg) : DefOk Pg w K mg base "room_of" 5 (spF (fun z : Nat × Rat × Bool => [isQ (cQ K) z.1 z.2.1, isB z.2.2]) (fun z => z.1 ≤ 7000) fun z => isQ (cQ K) (z.1 + 2) (CM.room z.2.1 z.2.2)) := by
  refine mkDef T.g_room_of T.k_room_of T.d_room_of scRoom (fun _ => rfl) (fun _ _ _ _ _ _ us hl => match us, hl with | [_, _], _ => rfl) fun cdv A outer s H vs Q E z hr fit hc k => ?_
  obtain ⟨n, r, u⟩ := z
  have hc : n ≤ 7000 := hc
  obtain ⟨x, _, rfl, hx, rfl⟩ := fit2 fit
  have hx : isQ (cQ K) n r x H := hx
  refine b_ret (R := Same) (P := isQ (cQ K) (n + 2) (CM.room r u)) (ev_ifx (p := (· = u)) (et_vb (ev_vv 1 rfl)) (fun hu => ?_) (fun hu => ?_)) fun v H1 s1 pv => k v H1 s1 pv
  · refine (ev_qsub T hr (ev_oneQ T hr) (ev_var 0 rfl hx)).imp fun v H1 _ p => ?_
    have e : CM.room r u = 1 - r := by unfold CM.room; rw [← hu]; rfl
    rw [e]
    exact p.up (by omega)
  · refine (ev_var 0 rfl hx).imp fun v H1 _ p => ?_
    have e : CM.room r u = r := by unfold CM.room; rw [← hu]; rfl
    rw [e]
    exact p.up (by omega)
abbrev nRooms : List Str := ["reflectance", "four", "up", "index", "band"]
theorem scRooms : FnScope nRooms ["reflectance", "four", "up"] (defScope srooms_of) := ⟨rfl, rfl, rfl, by decide +kernel, rfl, by decide +kernel, by decide +kernel⟩
theorem ok_rooms (T : Tx K mg) : DefOk Pg w K mg base "rooms_of" 6 (spF (fun z : (Nat × List Rat) × List Nat × Bool => [tupOf (isQ (cQ K) z.1.1) z.1.2, isFour z.2.1, isB z.2.2]) (fun z => z.1.1 ≤ 7000 ∧ Four z.1.2.length z.2.1) fun z => lstOf (isQ (cQ K) (z.1.1 + 2)) (CM.rooms z.1.2 z.2.1 z.2.2)) := by
  refine mkDef T.g_rooms_of T.k_rooms_of T.d_rooms_of scRooms (fun _ => rfl) (fun _ _ _ _ _ _ us hl => match us, hl with | [_, _, _], _ => rfl) fun cdv A outer s H vs Q E z hr fit hc k => ?_
  obtain ⟨⟨n, rs⟩, f, up⟩ := z
  obtain ⟨c1, c2⟩ := hc
  have c1 : n ≤ 7000 := c1
  have c2 : Four rs.length f := c2
  obtain ⟨x, y, _, rfl, hx, hy, rfl⟩ := fit3 fit
  have hx : tupOf (isQ (cQ K) n) rs x H := hx
  have hy : isFour f y H := hy
  obtain ⟨py, ys, rfl, hpy, qy⟩ := id hy
  have hly : ys.length = 4 := by rw [qy.1, c2.len]
  refine b_ret (R := Same) (ev_lcE 3 4 (own := [("index", 3), ("band", 4)]) (xs := ys) (tt := tYes) (fun i => true) (fun i => CM.room (rs.getD (f.getD i 0) default) (up == CM.evn i)) (isQ (cQ K) (n + 2)) moN (by omega) T.n_enumerate (ev_var 1 rfl (show tupAt ys (.ref py) H from ⟨py, rfl, hpy⟩))
      (fun _ _ _ _ _ K k => tt_yes (f := fun _ => true) (i := 0) rfl k)
      (fun i v H2 hv hf s2 => fun s0 H0 C cl fp => by
        obtain ⟨ev, hi⟩ := four_at qy hv
        subst ev
        have hlt := c2.lt i
        refine ev_call (ok_room T) hr (n, rs.getD (f.getD i 0) default, up == CM.evn i) c1 (ea_cons (ev_ixT (ev_var 0 rfl (Mo.mo (R := Same) s2 hx)) (ev_vv 4 rfl) (at_nat ?_)) (ea_cons (ev_is (ev_eq (ev_vv 2 rfl) (ev_evn (ev_vv 3 rfl))) ?_) ea_nil))
        · have eg := List.getElem?_eq_getElem hlt
          rw [getD_some eg]
          exact eg
        · congr 1
          rw [Bool.eq_iff_iff]
          simp)
      scRooms.nd (fun _ _ _ _ _ => pts_nil) (blkOk_by (N := nRooms) (sc := defScope srooms_of) (by decide +kernel)) (by decide) (by decide) (fun _ _ _ _ _ => pg_tup rfl (pgs_cons (pg_name (i := 3) scRooms.nd rfl (Or.inl rfl)) (pgs_cons (pg_name (i := 4) scRooms.nd rfl (Or.inl rfl)) pgs_nil)))) fun v H1 s1 pv => k v H1 s1 ?_
  rw [hly, kept_all] at pv
  exact pv
abbrev nChanged : List Str := ["view", "reflectance", "four", "up", "rooms", "dets", "step", "room", "whole", "values", "index", "band"]
theorem scChanged : FnScope nChanged ["view", "reflectance", "four", "up"] (defScope schanged) := ⟨rfl, rfl, rfl, by decide +kernel, rfl, by decide +kernel, by decide +kernel⟩
abbrev VRF : Type := VR × List Nat × Bool
def condF (z : VRF) : Prop := z.1.1.2.length = z.1.2.2.length ∧ z.1.2.1 ≤ 1000 ∧ Four z.1.2.2.length z.2.1 ∧ ∀ i, i < 4 → 0 < CM.odet (gens z.1.1) z.2.1 i
theorem dets_get {gs : List CM.V3} {f : List Nat} {i : Nat} (h : i < 4) : (CM.dets gs f)[i]? = some (CM.odet gs f i) := by
  unfold CM.dets
  rw [List.getElem?_map, List.getElem?_range h]
  rfl
theorem rooms_get {rs : List Rat} {f : List Nat} {up : Bool} {i : Nat} (h : i < 4) : (CM.rooms rs f up)[i]? = some (CM.room (rs.getD (f.getD i 0) default) (up == CM.evn i)) := by
  unfold CM.rooms
  rw [List.getElem?_map, List.getElem?_range h]
  rfl
theorem ok_changed (T : Tx K mg) : DefOk Pg w K mg base "changed" 7 (spF (fun z : VRF => [isView K z.1.1, tupOf (isQ (cQ K) z.1.2.1) z.1.2.2, isFour z.2.1, isB z.2.2]) condF fun z => tupOf (isQ (cQ K) (2 * z.1.2.1 + 433)) (CM.chg z.1.2.2 (gens z.1.1) z.2.1 z.2.2)) := by
  refine mkDef T.g_changed T.k_changed T.d_changed scChanged (fun _ => rfl) (fun _ _ _ _ _ _ us hl => match us, hl with | [_, _, _, _], _ => rfl) fun cdv A outer s H vs Q E z hr fit hc k => ?_
  obtain ⟨⟨vw, n, rs⟩, f, up⟩ := z
  obtain ⟨c1, c2, c3, c4⟩ := hc
  have c1 : vw.2.length = rs.length := c1
  have c2 : n ≤ 1000 := c2
  have c3 : Four rs.length f := c3
  have c4 : ∀ i, i < 4 → 0 < CM.odet (gens vw) f i := c4
  have hgl : (gens vw).length = rs.length := by rw [gens_len, c1]
  obtain ⟨x, y, u, _, rfl, hx, hy, hu, rfl⟩ := fit4 fit
  have hx : isView K vw x H := hx
  have hy : tupOf (isQ (cQ K) n) rs y H := hy
  have hu : isFour f u H := hu
  refine b_set (R := Same) 4 (ev_call (ok_rooms T) hr ((n, rs), f, up) ⟨by show n ≤ 7000; omega, c3⟩ (ea_cons (ev_var 1 rfl hy) (ea_cons (ev_var 2 rfl hu) (ea_cons (ev_vv 3 rfl) ea_nil)))) (fun rm H1 s1 prm => ?_) scChanged.nd
  have prm : lstOf (isQ (cQ K) (n + 2)) (CM.rooms rs f up) rm H1 := prm
  have hx := Mo.mo (R := Same) s1 hx
  have hy := Mo.mo (R := Same) s1 hy
  have hu := Mo.mo (R := Same) s1 hu
  refine b_lcR 5 10 (own := [("index", 10)]) (n := 4) (tt := tYes) (fun _ => true) (CM.odet (gens vw) f) (isQ (cQ K) 215) moN (by decide) T.n_range ev_int (fun _ _ _ _ K k => tt_yes (f := fun _ => true) (i := 0) rfl k)
    (fun i H2 hi _ s2 => fun s0 H0 C cl fp => ev_call (ok_odet T) hr (gens vw, f, i) ⟨by show Four (gens vw).length f; rw [hgl]; exact c3, hi⟩ (ea_cons (ev_vgens T (ev_var 0 rfl (Mo.mo (R := Same) s2 hx))) (ea_cons (ev_var 2 rfl (Mo.mo (R := Same) s2 hu)) (ea_cons (ev_vv 10 rfl) ea_nil))))
    scChanged.nd (fun _ _ _ _ _ => pts_nil) (blkOk_by (N := nChanged) (sc := defScope schanged) (by decide +kernel)) (by decide) (fun _ _ _ _ _ => pg_name (i := 10) scChanged.nd rfl (Or.inl rfl)) (fun ds H2 s2 pds => ?_) (by kernel_rfl)
  have prm := Mo.mo (R := Same) s2 prm
  have hx := Mo.mo (R := Same) s2 hx
  have hy := Mo.mo (R := Same) s2 hy
  have hu := Mo.mo (R := Same) s2 hu
  have pds : lstOf (isQ (cQ K) 215) (CM.dets (gens vw) f) ds H2 := by rw [kept_all] at pds; exact pds
  -- the step
  have d0 : 0 < CM.odet (gens vw) f 0 := c4 0 (by decide)
  refine b_set (R := Same) 6 (ev_qover T (hr.mono (by decide)) (ev_ixL (z := CM.room (rs.getD (f.getD 0 0) default) (up == CM.evn 0)) (ev_var 4 rfl prm) ev_int) (ev_ixL (z := CM.odet (gens vw) f 0) (ev_var 5 rfl pds) ev_int) d0) (fun st H3 s3 pst => ?_) scChanged.nd
  have prm := Mo.mo (R := Same) s3 prm
  have pds := Mo.mo (R := Same) s3 pds
  have hx := Mo.mo (R := Same) s3 hx
  have hy := Mo.mo (R := Same) s3 hy
  have hu := Mo.mo (R := Same) s3 hu
  refine b_forZL (R := Same) 7 8 T.n_zip (ea_cons (ev_var 4 rfl prm) (ea_cons (ev_var 5 rfl pds) ea_nil)) (fun a b H4 s4 pa pb => ?_) (pg_tup rfl (pgs_cons (pg_name (i := 7) scChanged.nd rfl (Or.inl rfl)) (pgs_cons (pg_name (i := 8) scChanged.nd rfl (Or.inl rfl)) pgs_nil))) PassesOwn.never
  obtain ⟨pr, xs, rfl, hpr, qr⟩ := pa
  obtain ⟨pd, ws, rfl, hpd, qd⟩ := pb
  have lx : xs.length = 4 := by rw [qr.1]; rfl
  have lw : ws.length = 4 := by rw [qd.1]; rfl
  have prm := Mo.mo (R := Same) s4 prm
  have pds := Mo.mo (R := Same) s4 pds
  have hx := Mo.mo (R := Same) s4 hx
  have hy := Mo.mo (R := Same) s4 hy
  have hu := Mo.mo (R := Same) s4 hu
  have pst := Mo.mo (R := Same) s4 pst
  refine ⟨pr, pd, xs, ws, fun i σ H5 => ∃ st a b, σ = [some x, some y, some u, some (.bl up), some rm, some ds, some st, a, b, none, none, none] ∧ isQ (cQ K) (n + 217) (CM.stepTo (CM.rooms rs f up) (CM.dets (gens vw) f) i) st H5 ∧ Same H4 H5, rfl, rfl, hpr, hpd, by rw [lx, lw], ⟨st, none, none, rfl, pst, Same.refl _⟩, fun i σ1 H5 ⟨_, _, _, _, _, s5⟩ => ⟨s5 _ _ hpr, s5 _ _ hpd⟩, fun i a b σ1 H5 H6 ha hb hW s6 => ?_, fun σ1 H5 hW => ?_⟩
  · obtain ⟨st, _, _, rfl, pst, s5⟩ := hW
    have hi : i < 4 := by rw [← lx]; exact (List.getElem?_eq_some_iff.mp ha).1
    have fa := qr.2 i a _ ha (rooms_get hi)
    have fb := qd.2 i b _ hb (dets_get hi)
    have s46 := s5.trans s6
    have fa := Mo.mo (R := Same) s46 fa
    have fb := Mo.mo (R := Same) s46 fb
    have pst := Mo.mo (R := Same) s6 pst
    have hd := c4 i hi
    refine b_when (R := Same) (et_qlt T (hr.mono (by decide)) (ev_qover T (hr.mono (by decide)) (ev_var 7 rfl fa) (ev_var 8 rfl fb) hd) (ev_var 6 rfl pst)) (fun ht H7 s7 => ?_) (fun ht H7 s7 => RSs.nil ?_)
    · have fa := Mo.mo (R := Same) s7 fa
      have fb := Mo.mo (R := Same) s7 fb
      refine b_set (R := Same) 6 (ev_qover T (hr.mono (by decide)) (ev_var 7 rfl fa) (ev_var 8 rfl fb) hd) (fun v H8 s8 pv => RSs.nil (RSs.nil ⟨v, _, _, rfl, ?_, s46.trans (s7.trans s8)⟩)) scChanged.nd
      rw [CM.stepTo_succ (rooms_get hi) (dets_get hi)]
      unfold CM.lstep
      rw [if_pos (of_decide_eq_true ht.symm)]
      exact pv
    · refine ⟨st, _, _, rfl, ?_, s46.trans s7⟩
      rw [CM.stepTo_succ (rooms_get hi) (dets_get hi)]
      unfold CM.lstep
      rw [if_neg (of_decide_eq_false ht.symm)]
      exact Mo.mo (R := Same) s7 pst
  · obtain ⟨st, a1, b1, rfl, pst, s5⟩ := hW
    have pst : isQ (cQ K) (n + 217) (CM.stepOf (CM.rooms rs f up) (CM.dets (gens vw) f)) st H5 := by rw [lx] at pst; exact pst
    have pds := Mo.mo (R := Same) s5 pds
    have hy := Mo.mo (R := Same) s5 hy
    have hu := Mo.mo (R := Same) s5 hu
    generalize hst : CM.stepOf (CM.rooms rs f up) (CM.dets (gens vw) f) = step at pst
    refine b_set (R := Same) 9 (ev_listF T.n_list (ev_var 1 rfl hy) (fun _ => inferInstance)) (fun vl H6 s6 pvl => ?_) scChanged.nd
    obtain ⟨pv, vs, rfl, hnew, hpv, qv⟩ := pvl
    have pds0 := pds
    have hu0 := hu
    have pst0 := pst
    have hu := Mo.mo (R := Same) s6 hu
    -- the loop over the four
    have up1 : ∀ {H7 : Hp} {o o' : HO}, Same H5 H7 → H7 pv = some o → Same H5 (upd H7 pv o') := fun s7 h7 b o hb => by
      rw [upd_ne (ne_of_none hb hnew)]
      exact s7 _ _ hb
    refine b_forE (R := Same) 10 11 T.n_enumerate (ev_var 2 rfl hu) (fun v H7 s7 pf => ?_) (pg_tup rfl (pgs_cons (pg_name (i := 10) scChanged.nd rfl (Or.inl rfl)) (pgs_cons (pg_name (i := 11) scChanged.nd rfl (Or.inl rfl)) pgs_nil))) PassesOwn.never
    obtain ⟨pf4, fs, rfl, hpf, qf⟩ := pf
    have lf : fs.length = 4 := by rw [qf.1, c3.len]
    have inv0 : All2 (fun z : Nat × Rat => isQ (cQ K) z.1 z.2) vs (CM.valsN n (2 * n + 433) rs f (CM.dets (gens vw) f) step up 0) H7 := by
      refine ⟨by rw [qv.1, CM.valsN_len], fun i x z h1 h2 => ?_⟩
      have h2 : (rs.map fun r => (n, r))[i]? = some z := h2
      rw [List.getElem?_map] at h2
      obtain ⟨r, h3, rfl⟩ := Option.map_eq_some_iff.mp h2
      exact Mo.mo (R := Same) s7 (qv.2 i x r h1 h3)
    refine ⟨pf4, fs, fun i σ H8 => ∃ vs a b, σ = [some x, some y, some u, some (.bl up), some rm, some ds, some st, a1, b1, some (.ref pv), a, b] ∧ H8 pv = some (.lst vs) ∧ All2 (fun z : Nat × Rat => isQ (cQ K) z.1 z.2) vs (CM.valsN n (2 * n + 433) rs f (CM.dets (gens vw) f) step up i) H8 ∧ Same H5 H8 ∧ H8 pf4 = some (.tup fs), rfl, hpf, ⟨vs, none, none, rfl, s7 _ _ hpv, inv0, s6.trans s7, hpf⟩, fun i σ1 H8 ⟨_, _, _, _, _, _, _, h⟩ => h, fun i b σ1 H8 H9 hb hW s9 => ?_, fun σ1 H8 hW => ?_⟩
    · obtain ⟨vs, _, _, rfl, hp8, q8, s8, t8⟩ := hW
      obtain ⟨eb, hi⟩ := four_at qf hb
      have hi : i < 4 := by rw [← c3.len]; exact hi
      subst eb
      have hp9 := s9 _ _ hp8
      have q9 := q8.mo (R := Same) s9
      have s59 := s8.trans s9
      have t9 := s9 _ _ t8
      have at9 : (CM.valsN n (2 * n + 433) rs f (CM.dets (gens vw) f) step up i)[f.getD i 0]? = some (n, rs.getD (f.getD i 0) default) := by
        obtain ⟨a, b, c, d, rfl, h1, h2, h3, h4⟩ := c3
        exact CM.valsN_at h1 h2 h3 h4 _ _ _ i hi
      have pds := Mo.mo (R := Same) s59 pds0
      have pst := Mo.mo (R := Same) s59 pst0
      have lvs : f.getD i 0 < vs.length := by rw [q9.1]; exact (List.getElem?_eq_some_iff.mp at9).1
      have put : ∀ (v : V) (H11 : Hp), Same H9 H11 → isQ (cQ K) (2 * n + 433) (CM.mv (rs.getD (f.getD i 0) default) step ((CM.dets (gens vw) f).getD i default) (up == CM.evn i)) v H11 →
          (upd H11 pv (.lst (vs.set (f.getD i 0) v))) pv = some (.lst (vs.set (f.getD i 0) v)) ∧ All2 (fun z : Nat × Rat => isQ (cQ K) z.1 z.2) (vs.set (f.getD i 0) v) (CM.valsN n (2 * n + 433) rs f (CM.dets (gens vw) f) step up (i + 1)) (upd H11 pv (.lst (vs.set (f.getD i 0) v))) ∧ Same H5 (upd H11 pv (.lst (vs.set (f.getD i 0) v))) ∧ (upd H11 pv (.lst (vs.set (f.getD i 0) v))) pf4 = some (.tup fs) := by
        intro v H11 s11 pq
        have e := nl_upd (o := .lst (vs.set (f.getD i 0) v)) (s11 _ _ hp9)
        refine ⟨upd_same, ?_, up1 (s59.trans s11) (s11 _ _ hp9), e _ _ (s11 _ _ t9) nl_tup⟩
        exact All2.mo (R := Nl) e ((q9.mo (R := Same) s11).set (f.getD i 0) (a := CM.mvp (2 * n + 433) rs f (CM.dets (gens vw) f) step up i) pq)
      have edet : (CM.dets (gens vw) f).getD i default = CM.odet (gens vw) f i := getD_some (dets_get hi)
      have lv : lstOf (fun z : Nat × Rat => isQ (cQ K) z.1 z.2) (CM.valsN n (2 * n + 433) rs f (CM.dets (gens vw) f) step up i) (.ref pv) H9 := ⟨pv, vs, rfl, hp9, q9⟩
      have ec : decide (V.bl up = V.bl (CM.evn i)) = (up == CM.evn i) := by
        rw [Bool.eq_iff_iff]
        simp
      refine b_if (R := Same) (et_is (et_eq (ev_vv 3 rfl) (ev_evn (ev_vv 10 rfl))) ec) (fun ht H10 s10 => ?_) (fun ht H10 s10 => ?_)
      · have lv := Mo.mo (R := Same) s10 lv
        have pst := Mo.mo (R := Same) s10 pst
        have pds := Mo.mo (R := Same) s10 pds
        refine b_put (R := Same) (F := Unit) (Pb := atP pv (.lst vs)) (ev_qadd T (hr.mono (by decide)) (ev_ixL (z := (n, rs.getD (f.getD i 0) default)) (ev_var 9 rfl lv) (ev_vv 11 rfl) (at_nat at9)) (ev_qmul T (hr.mono (by decide)) (ev_var 6 rfl pst) (ev_ixL (ev_var 5 rfl pds) (ev_vv 10 rfl) (at_nat (dets_get hi))) (by omega)) (by omega)) (ev_var 9 rfl ⟨rfl, s10 _ _ hp9⟩) (ev_vv 11 rfl) fun v o j H11 s11 pq po pj => ?_
        refine ⟨pv, vs, _, _, po.1, pj, po.2, ix_nat lvs, RSs.nil (RSs.nil ⟨_, _, _, rfl, put v H11 (s10.trans s11) ?_⟩)⟩
        rw [edet, ← ht]
        exact isQ.up pq (by omega)
      · have lv := Mo.mo (R := Same) s10 lv
        have pst := Mo.mo (R := Same) s10 pst
        have pds := Mo.mo (R := Same) s10 pds
        refine b_put (R := Same) (F := Unit) (Pb := atP pv (.lst vs)) (ev_qsub T (hr.mono (by decide)) (ev_ixL (z := (n, rs.getD (f.getD i 0) default)) (ev_var 9 rfl lv) (ev_vv 11 rfl) (at_nat at9)) (ev_qmul T (hr.mono (by decide)) (ev_var 6 rfl pst) (ev_ixL (ev_var 5 rfl pds) (ev_vv 10 rfl) (at_nat (dets_get hi))) (by omega)) (by omega)) (ev_var 9 rfl ⟨rfl, s10 _ _ hp9⟩) (ev_vv 11 rfl) fun v o j H11 s11 pq po pj => ?_
        refine ⟨pv, vs, _, _, po.1, pj, po.2, ix_nat lvs, RSs.nil (RSs.nil ⟨_, _, _, rfl, put v H11 (s10.trans s11) ?_⟩)⟩
        rw [edet, ← ht]
        exact isQ.up pq (by omega)
    · obtain ⟨vs, _, _, rfl, hp8, q8, s8, _⟩ := hW
      have echg : (CM.valsN n (2 * n + 433) rs f (CM.dets (gens vw) f) step up 4).map (·.2) = CM.chg rs (gens vw) f up := by
        rw [CM.valsN_snd, ← hst]
        rfl
      have hl : lstOf (isQ (cQ K) (2 * n + 433)) (CM.chg rs (gens vw) f up) (.ref pv) H8 := by
        refine ⟨pv, vs, rfl, hp8, ?_, fun i x r h1 h2 => ?_⟩
        · rw [q8.1, lf, ← echg, List.length_map]
        · rw [← echg, ← lf, List.getElem?_map] at h2
          obtain ⟨z, h3, rfl⟩ := Option.map_eq_some_iff.mp h2
          exact isQ.up (q8.2 i x z h1 h3) (CM.valsN_le (by omega) _ _ _ _ _ _ z (List.mem_of_getElem? h3))
      exact b_ret (R := Same) (ev_tupleOf T.n_tuple (ev_var 9 rfl hl) (fun _ => inferInstance)) fun v H9 s9 pv => k v H9 (((((s1.trans s2).trans s3).trans s4).trans s5).trans (s8.trans s9)) pv
end
end Ly
set_option Elab.async false
set_option linter.all false
set_option maxRecDepth 100000
set_option maxHeartbeats 4000000
/-! The other match. -/
namespace Ly
open PySem PySem.Spec PyProof.Rows L2
section
variable {Pg : Program} {w : World} {K : PySem.W.Frag} {mg : Str → Option Value} {base : Heap}
/-- what other_match tells: nothing, or the change of a four that has room -/
def isTold (K : PySem.W.Frag) (z : VR) : HF := fun v H => (v = .non ∧ ∀ f ∈ CM.fours z.2.2.length, ∀ up, CM.okF z.2.2 f up = false) ∨ ∃ f up, f ∈ CM.fours z.2.2.length ∧ CM.okF z.2.2 f up = true ∧ tupOf (isQ (cQ K) (2 * z.2.1 + 433)) (CM.chg z.2.2 (gens z.1) f up) v H
abbrev nOther : List Str := ["view", "reflectance", "four", "up", "room"]
theorem scOther : FnScope nOther ["view", "reflectance"] (defScope sother_match) := ⟨rfl, rfl, rfl, by decide +kernel, rfl, by decide +kernel, by decide +kernel⟩
def condM (z : VR) : Prop := z.1.2.length = z.2.2.length ∧ z.2.1 ≤ 300 ∧ 4 ≤ z.2.2.length ∧ z.2.2.length ≤ 7 ∧ Refl z.2.2 ∧ ∀ f ∈ CM.fours z.2.2.length, ∀ i, i < 4 → 0 < CM.odet (gens z.1) f i
theorem four_ok {n : Nat} (h1 : 4 ≤ n) (h2 : n ≤ 7) {f : List Nat} (h : f ∈ CM.fours n) : Four n f := by
  obtain ⟨a, b, c, d, e, h⟩ := CM.fours_get h1 h2 h
  exact ⟨a, b, c, d, e, h⟩
theorem ok_other (T : Tx K mg) : DefOk Pg w K mg base "other_match" 8 (spF (fun z : VR => [isView K z.1, tupOf (isQ (cQ K) z.2.1) z.2.2]) condM (isTold K)) := by
  refine mkDef T.g_other_match T.k_other_match T.d_other_match scOther (fun _ => rfl) (fun _ _ _ _ _ _ us hl => match us, hl with | [_, _], _ => rfl) fun cdv A outer s H vs Q E z hr fit hc k => ?_
  obtain ⟨vw, n, rs⟩ := z
  obtain ⟨c1, c2, c3, c4, c5, c6⟩ := hc
  have c1 : vw.2.length = rs.length := c1
  have c2 : n ≤ 300 := c2
  have c3 : 4 ≤ rs.length := c3
  have c4 : rs.length ≤ 7 := c4
  have c6 : ∀ f ∈ CM.fours rs.length, ∀ i, i < 4 → 0 < CM.odet (gens vw) f i := c6
  obtain ⟨x, y, rfl, hx, hy⟩ := fit2 fit
  have hx : isView K vw x H := hx
  have hy : tupOf (isQ (cQ K) n) rs y H := hy
  refine b_expr (R := Same) (ev_call (ok_check T) (hr.mono (by decide)) (n, rs) ⟨by show n ≤ 7000; omega, by show rs.length ≤ 1000; omega, c5⟩ (ea_cons (ev_var 1 rfl hy) (ea_cons (by rw [← c1]; exact ev_lenView T (hr.mono (by decide)) (by omega) (ev_var 0 rfl hx)) ea_nil))) fun v H1 s1 pv => ?_
  have hx := Mo.mo (R := Same) s1 hx
  have hy := Mo.mo (R := Same) s1 hy
  refine b_forL (R := Same) 2 (ev_call (ok_fours T) (hr.mono (by decide)) rs.length ⟨c3, c4⟩ (ea_cons (by rw [← c1]; exact ev_lenView T (hr.mono (by decide)) (by omega) (ev_var 0 rfl hx)) ea_nil)) (fun v H2 s2 pf => ?_) scOther.nd PassesOwn.never
  obtain ⟨p, xs, rfl, hp, qf⟩ := pf
  refine ⟨p, xs, fun i σ H3 => ∃ a b, σ = [some x, some y, a, b, none] ∧ Same H2 H3 ∧ ∀ j, j < i → ∀ f, (CM.fours rs.length)[j]? = some f → ∀ up, CM.okF rs f up = false, rfl, hp, ⟨none, none, rfl, Same.refl _, fun j hj => by omega⟩, fun i σ1 H3 ⟨_, _, _, s3, _⟩ => s3 _ _ hp, fun i a σ1 H3 ha hW => ?_, fun σ1 H3 hW => ?_⟩
  · obtain ⟨_, b, rfl, s3, inv⟩ := hW
    obtain ⟨f, hf, fa⟩ := qf.get' ha
    have fm : f ∈ CM.fours rs.length := List.mem_of_getElem? hf
    have f4 := four_ok c3 c4 fm
    have fa := Mo.mo (R := Same) s3 fa
    have hx := Mo.mo (R := Same) (s2.trans s3) hx
    have hy := Mo.mo (R := Same) (s2.trans s3) hy
    refine b_forT (R := Same) 3 (ev_tupU (F := isB) (as := [true, false]) (ea_cons ev_bl (ea_cons ev_bl ea_nil)) (fun _ => inferInstance)) (fun v H4 s4 pt => ?_) scOther.nd PassesOwn.never
    obtain ⟨pt, us, rfl, hpt, qu⟩ := pt
    refine ⟨pt, us, fun l σ H5 => ∃ b, σ = [some x, some y, some a, b, none] ∧ Same H4 H5 ∧ ∀ j, j < l → ∀ up, [true, false][j]? = some up → CM.okF rs f up = false, rfl, hpt, ⟨b, rfl, Same.refl _, fun j hj => by omega⟩, fun i σ1 H5 ⟨_, _, s5, _⟩ => s5 _ _ hpt, fun l c σ1 H5 hc hW => ?_, fun σ1 H5 hW => RSs.nil ?_⟩
    · obtain ⟨_, rfl, s5, inv2⟩ := hW
      obtain ⟨up, hup, eu⟩ := qu.get' hc
      cases eu
      have fa := Mo.mo (R := Same) (s4.trans s5) fa
      have hx := Mo.mo (R := Same) (s4.trans s5) hx
      have hy := Mo.mo (R := Same) (s4.trans s5) hy
      have eok : (((CM.rooms rs f up).filter fun _ => true).map fun r => decide (0 < r)).all id = CM.okF rs f up := by
        rw [List.filter_eq_self.mpr (fun _ _ => rfl), List.all_map]
        rfl
      refine b_when (R := Same) (et_is (et_vb (ev_all rfl T.n_all (lc_L 4 (own := [("room", 4)]) (tt := tYes) (F := isQ (cQ K) (n + 2)) (G := isB) (as := CM.rooms rs f up) (fun _ => true) (fun r => decide (0 < r)) moB (fun _ => inferInstance) (by show 4 ≤ 1000000; decide) (ev_call (ok_rooms T) (hr.mono (by decide)) ((n, rs), f, up) ⟨by show n ≤ 7000; omega, f4⟩ (ea_cons (ev_var 1 rfl hy) (ea_cons (ev_var 2 rfl fa) (ea_cons (ev_vv 3 rfl) ea_nil)))) (fun _ _ _ _ _ _ K k => tt_yes (f := fun _ => true) (i := 0) rfl k)
        (fun r u H6 _ _ s6 hu => fun s0 H0 C cl fp => ev_qlt T (hr.mono (by decide)) (ev_zero T (hr.mono (by decide))) (ev_var 4 rfl hu))
        scOther.nd (fun _ _ _ _ _ => pts_nil) (blkOk_by (N := nOther) (sc := defScope sother_match) (by decide +kernel)) (by decide) (fun _ _ _ _ _ => pg_name (i := 4) scOther.nd rfl (Or.inl rfl))))) eok) (fun ht H6 s6 => ?_) (fun ht H6 s6 => RSs.nil ?_)
      · have fa := Mo.mo (R := Same) s6 fa
        have hx := Mo.mo (R := Same) s6 hx
        have hy := Mo.mo (R := Same) s6 hy
        exact b_ret (R := Same) (ev_call (ok_changed T) hr ((vw, n, rs), f, up) ⟨c1, by show n ≤ 1000; omega, f4, c6 f fm⟩ (ea_cons (ev_var 0 rfl hx) (ea_cons (ev_var 1 rfl hy) (ea_cons (ev_var 2 rfl fa) (ea_cons (ev_vv 3 rfl) ea_nil))))) fun v H7 s7 pv => k v H7 (s1.trans (s2.trans (s3.trans (s4.trans (s5.trans (s6.trans s7)))))) (.inr ⟨f, up, fm, ht.symm, pv⟩)
      · refine ⟨_, rfl, s5.trans s6, fun j hj u hu => ?_⟩
        by_cases h : j < l
        · exact inv2 j h u hu
        · have : j = l := by omega
          subst this
          rw [hup] at hu
          cases hu
          exact ht.symm
    · obtain ⟨b2, rfl, s5, inv2⟩ := hW
      refine ⟨_, _, rfl, s3.trans (s4.trans s5), fun j hj g hg up => ?_⟩
      by_cases h : j < i
      · exact inv j h g hg up
      · have : j = i := by omega
        subst this
        rw [hf] at hg
        cases hg
        have lu : us.length = 2 := qu.1
        cases up with
        | true => exact inv2 0 (by omega) true rfl
        | false => exact inv2 1 (by omega) false rfl
  · obtain ⟨a, b, rfl, s3, inv⟩ := hW
    refine b_ret (R := Same) ev_non fun v H4 s4 pv => k v H4 (s1.trans (s2.trans (s3.trans s4))) (.inl ⟨pv, fun f hf up => ?_⟩)
    obtain ⟨j, hj, e⟩ := List.mem_iff_getElem.mp hf
    exact inv j (by rw [qf.1]; exact hj) f (by rw [← e]; exact List.getElem?_eq_getElem hj) up
end
end Ly
set_option Elab.async false
set_option linter.all false
set_option maxRecDepth 100000
set_option maxHeartbeats 4000000
/-! The stream of draws: what may change is the place alone. -/
namespace Ly
open PySem PySem.Spec PyProof.Rows L2
/-- all stands but the place at pl, which stays a place -/
def But (pl : Addr) (H H1 : Hp) : Prop := (∀ b o, H b = some o → (b ≠ pl ∨ NL o) → H1 b = some o) ∧ (∀ k, H pl = some (.lst [.int k]) → ∃ k1, H1 pl = some (.lst [.int k1])) ∧ ∀ b, H1 b = none → H b = none
instance butRel {pl : Addr} : Rel (But pl) where
  rf := fun H => ⟨fun _ _ h _ => h, fun k h => ⟨k, h⟩, fun _ h => h⟩
  tr := fun {H H1 H2} a b => ⟨fun c o h n => b.1 c o (a.1 c o h n) n, fun k h => by
    obtain ⟨k1, h1⟩ := a.2.1 k h
    exact b.2.1 k1 h1, fun c h => a.2.2 c (b.2.2 c h)⟩
  sm := fun s => ⟨fun b o h _ => s b o h, fun k h => ⟨k, s _ _ h⟩, fun b h => Same.free s h⟩
  nl := fun r h n => r.1 _ _ h (.inr n)
/-- a new thing beside what stands -/
class Bes (R : Hp → Hp → Prop) : Prop where
  bs : ∀ {H H1 : Hp} {a : Addr} {o : HO}, R H H1 → H a = none → R H (upd H1 a o)
instance : Bes Same := ⟨fun {H H1 a o} s h b u hb => by
  rw [upd_ne (ne_of_none hb h)]
  exact s b u hb⟩
instance butBes {pl : Addr} : Bes (But pl) := ⟨fun {H H1 a o} r h => ⟨fun b u hb n => by
    rw [upd_ne (ne_of_none hb h)]
    exact r.1 b u hb n, fun k hk => by
    obtain ⟨k1, h1⟩ := r.2.1 k hk
    refine ⟨k1, ?_⟩
    rw [upd_ne (ne_of_none hk h)]
    exact h1, fun b hb => by
    by_cases e : b = a
    · rw [e]; exact h
    · rw [upd_ne e] at hb
      exact r.2.2 b hb⟩⟩
/-- the stream -/
def isStr (pl : Addr) : HF := fun v H => ∃ s d ds k, v = .ref s ∧ s ≠ pl ∧ d ≠ pl ∧ H s = some (.lst [.ref d, .ref pl]) ∧ H d = some (.lst ds) ∧ ds ≠ [] ∧ (∀ x ∈ ds, ∃ i : Int, x = .int i) ∧ H pl = some (.lst [.int k])
instance {pl : Addr} : Mo (But pl) (isStr pl) := ⟨fun {v H H1} r ⟨s, d, ds, k, e, n1, n2, h1, h2, h3, h4, h5⟩ => by
  obtain ⟨k1, h6⟩ := r.2.1 k h5
  exact ⟨s, d, ds, k1, e, n1, n2, r.1 _ _ h1 (.inl n1), r.1 _ _ h2 (.inl n2), h3, h4, h6⟩⟩
instance {pl : Addr} : Mo Same (isStr pl) := ⟨fun {v H H1} r h => Mo.mo (R := But pl) (Rel.sm r) h⟩
theorem isStr.pl {pl : Addr} {v : V} {H : Hp} (h : isStr pl v H) : ∃ k, H pl = some (.lst [.int k]) := by
  obtain ⟨s, d, ds, k, e, n1, n2, h1, h2, h3, h4, h5⟩ := h
  exact ⟨k, h5⟩
/-- a list elsewhere -/
def atB (pl p : Addr) (o : HO) : HF := fun v H => v = .ref p ∧ p ≠ pl ∧ H p = some o
instance {pl p : Addr} {o : HO} : Mo (But pl) (atB pl p o) := ⟨fun r h => ⟨h.1, h.2.1, r.1 _ _ h.2.2 (.inl h.2.1)⟩⟩
instance {pl p : Addr} {o : HO} : Mo Same (atB pl p o) := ⟨fun r h => ⟨h.1, h.2.1, r _ _ h.2.2⟩⟩
def lstB {α : Type} (pl : Addr) (F : α → HF) (as : List α) : HF := fun v H => ∃ a xs, v = .ref a ∧ a ≠ pl ∧ H a = some (.lst xs) ∧ All2 F xs as H
instance {α : Type} {pl : Addr} {F : α → HF} {as : List α} [∀ a, Mo (But pl) (F a)] : Mo (But pl) (lstB pl F as) := ⟨fun {v H H1} e h => by
  obtain ⟨a, xs, rfl, n, ha, q⟩ := h
  exact ⟨a, xs, rfl, n, e.1 _ _ ha (.inl n), q.mo e⟩⟩
instance {α : Type} {pl : Addr} {F : α → HF} {as : List α} [∀ a, Mo Same (F a)] : Mo Same (lstB pl F as) := ⟨fun {v H H1} e h => by
  obtain ⟨a, xs, rfl, n, ha, q⟩ := h
  exact ⟨a, xs, rfl, n, e _ _ ha, q.mo e⟩⟩
theorem lstB.of {α : Type} {pl : Addr} {F : α → HF} {as : List α} {v : V} {H : Hp} (h : lstB pl F as v H) : lstOf F as v H := by
  obtain ⟨a, xs, e, n, ha, q⟩ := h
  exact ⟨a, xs, e, ha, q⟩
/-- some meaning of a kind -/
def exF {α : Type} (p : α → Prop) (F : α → HF) : HF := fun v H => ∃ a, p a ∧ F a v H
instance {R : Hp → Hp → Prop} {α : Type} {p : α → Prop} {F : α → HF} [h : ∀ a, Mo R (F a)] : Mo R (exF p F) := ⟨fun e ⟨a, pa, q⟩ => ⟨a, pa, (h a).mo e q⟩⟩
/-- a promise of a def that draws -/
def spD {α : Type} (pars : α → List HF) (cond : α → Prop) (pl : α → Addr) (res : α → HF) : Sp := fun vs H Q _ => ∃ a, Fit (pars a) vs H ∧ cond a ∧ ∀ v H1, But (pl a) H H1 → res a v H1 → Q v H1
theorem spD_len {α : Type} {pars : α → List HF} {cond : α → Prop} {pl : α → Addr} {res : α → HF} {n : Nat} (h : ∀ a, (pars a).length = n) (vs : List V) (H : Hp) (Q : VK) (E : XK) (q : spD pars cond pl res vs H Q E) : vs.length = n := by
  obtain ⟨a, f, _⟩ := q
  rw [f.len, h]
section
variable {Pg : Program} {w : World} {K : PySem.W.Frag} {mg : Str → Option Value} {base : Heap}
theorem mkDefD {x q : Str} {st : Stmt} {N ps : List Str} {k : Nat} {α : Type} {pars : α → List HF} {cond : α → Prop} {pl : α → Addr} {res : α → HF} {f : Addr} (hm : mg x = some (.ref f)) (hk : PySem.W.keepIn K (.ref f) = true) (hF : ∃ fd, Fun K x q st f fd) (S : FnScope N ps (defScope st)) (hl : ∀ a, (pars a).length = ps.length)
    (hb : ∀ (kV doc pm : Value) (an : Option Addr) (cdv ct : Value) (us : List Value), us.length = ps.length → bindArgs (PySem.W.fnOf x q (defArgs st) (defBody st) (defScope st) .none kV doc pm an cdv ct) ⟨us, []⟩ = pure (ps.zip us))
    (body : ∀ (cdv : Value) (A : Around) (outer : List Env) (s : Shared) (H : Hp) (vs : List V) (Q : VK) (E : XK) (a : α), Room k (A.deeper (envOfC q (defScope st) s.heap.objs.size f cdv)) → Fit (pars a) vs H → cond a → (∀ v H1, But (pl a) H H1 → res a v H1 → Q v H1) →
      RSs (cxOf CX0 Pg w K mg base N q (defScope st) f cdv A outer s H E).nox (defBody st) { nx := fun _ H' => Q .non H', rt := Q } (start N vs) H) : DefOk Pg w K mg base x (k + 1) (spD pars cond pl res) := by
  obtain ⟨fd, F⟩ := hF
  refine ⟨f, fd, ps, hm, hk, F.ok S (fun vs H Q E h => spD_len hl vs H Q E h) (fun cdv A outer s H vs Q E hr h => ?_), F.binds hb⟩
  obtain ⟨a, fit, hc, k⟩ := h
  exact ⟨_, pss_rs, body cdv A outer s H vs Q E a hr fit hc k⟩
end
section
variable {R : Hp → Hp → Prop} {X : Cx} {σ : SS} {H H' : Hp} {P P' Pa Pb Pc : HF} {D : Ends} {e a b c : Expr} {es : List Expr} {pos p apos : Pos} {x : Str} {k : Nat}
theorem ev_callD {α : Type} {pars : α → List HF} {cond : α → Prop} {pl : α → Addr} {res : α → HF} (G : DefOk X.prog X.w X.K X.mg X.base x k (spD pars cond pl res)) (hr : Room k X.A) (z : α) (hc : cond z) (ha : EA (But (pl z)) X (e :: es) σ H (pars z))
    (hg : Gl X x := by rfl) (hdb : (x == ("__debug__" : Str)) = false := by decide) (he : starEach (e :: es) X.env = (false, eval e X.env) :: starEach es X.env := by rfl) (hpl : (backTo pos (starEach es X.env)).any (·.1) = false := by rfl) : EV (But (pl z)) X (.Call (.Name x p) (e :: es) [] pos) σ H (res z) :=
  ev_callS G hr ha (fun vs H1 r fit Q q => ⟨z, fit, hc, fun v H2 s pv => q v H2 s pv⟩) hg hdb he hpl
variable [Rel R]
/-- an item of a list, its place known to be within -/
theorem ev_ixAny {α : Type} {pl : Addr} {F : α → HF} {as : List α} (ha : EV R X a σ H (lstB pl F as)) [Mo R (lstB pl F as)] (hb : EV R X b σ H (isIp fun i => 0 ≤ i ∧ i < as.length)) (k : ∀ z ∈ as, ∀ v H1, F z v H1 → P v H1) (hs : PlainIx b := by exact fun _ _ => rfl) : EV R X (.Subscript a b pos) σ H P :=
  EV.by (pe_ix ix_list pe_re pe_re hs) fun H1 r Q q => two ha hb r fun x y H2 r2 ⟨ad, xs, ex, n, hx, q2⟩ ⟨i, ⟨h0, h1⟩, ey⟩ => by
    obtain ⟨j, rfl⟩ := Int.eq_ofNat_of_zero_le h0
    have hj : j < as.length := by omega
    obtain ⟨w, hw, fw⟩ := q2.get (List.getElem?_eq_getElem hj)
    exact ⟨ad, xs, _, w, ex, ey, SqL.of hx, atI_nat hw, q w H2 r2 (k _ (List.getElem_mem hj) w H2 fw)⟩
/-- a list display -/
theorem ev_lstB {α : Type} {pl : Addr} {F : α → HF} {as : List α} (h : EA R X es σ H (as.map F)) (hp : ∀ H1, R H H1 → ∃ o, H1 pl = some o) (hF : ∀ a, Mo Same (F a)) (hl : decide (as.length ≤ 1000) = true := by rfl) : EV R X (.List es pos) σ H (lstB pl F as) :=
  EV.by (pe_lst pa_ra) fun H1 r Q k => h H1 r _ fun vs H2 r2 f => ⟨Nat.le_trans (by rw [f.len, List.length_map]; exact of_decide_eq_true hl) (by decide), fun p hp' => by
    have q := f.all2
    obtain ⟨o, ho⟩ := hp H2 (Rel.tr r r2)
    refine k _ _ (Rel.tr r2 (Rel.sm (smn hp'))) ⟨p, vs, rfl, (fun e => by rw [e, ho] at hp'; cases hp'), upd_same, by rw [q.1, List.length_map], fun i x a h1 h2 => ?_⟩
    exact (hF a).mo (smn hp') (q.2 i x (F a) h1 (by rw [List.getElem?_map, h2]; rfl))⟩
theorem ea_nil' : EA R X [] σ H (([] : List Unit).map fun _ => anyV) := ea_nil
/-- arithmetic by properties, short -/
theorem ev_addp {p q r : Int → Prop} {pos : Pos} (ha : EV R X a σ H (isIp p)) (hb : EV R X b σ H (isIp q)) (hk : ∀ i j, p i → q j → r (i + j)) : EV R X (.BinOp a .Add b pos) σ H (isIp r) := ev_i0p op_add ha hb hk
theorem ev_subp {p q r : Int → Prop} {pos : Pos} (ha : EV R X a σ H (isIp p)) (hb : EV R X b σ H (isIp q)) (hk : ∀ i j, p i → q j → r (i - j)) : EV R X (.BinOp a .Sub b pos) σ H (isIp r) := ev_i0p op_sub ha hb hk
theorem ev_mulp {p q r : Int → Prop} {pos : Pos} (ha : EV R X a σ H (isIp p)) (hb : EV R X b σ H (isIp q)) (hk : ∀ i j, p i → q j → (-(2 ^ 64) < i ∧ i < 2 ^ 64) ∧ r (i * j)) : EV R X (.BinOp a .Mult b pos) σ H (isIp r) := ev_i1p op_mul ha hb fun i j hi hj => ⟨.inl (hk i j hi hj).1, (hk i j hi hj).2⟩
theorem ev_modp {p q r : Int → Prop} {pos : Pos} (ha : EV R X a σ H (isIp p)) (hb : EV R X b σ H (isIp q)) (hk : ∀ i j, p i → q j → 0 < j ∧ r (i % j)) : EV R X (.BinOp a .Mod b pos) σ H (isIp r) := ev_i1p op_mod ha hb hk
theorem ev_divp {p q r : Int → Prop} {pos : Pos} (ha : EV R X a σ H (isIp p)) (hb : EV R X b σ H (isIp q)) (hk : ∀ i j, p i → q j → (0 < j ∧ j < 1073741824) ∧ r (i / j)) : EV R X (.BinOp a .FloorDiv b pos) σ H (isIp r) := ev_i1p op_fdiv ha hb hk
theorem ev_ipp {p q : Int → Prop} (h : EV R X e σ H (isIp p)) (k : ∀ i, p i → q i) : EV R X e σ H (isIp q) := h.imp fun v H1 _ ⟨i, pi, e⟩ => ⟨i, k i pi, e⟩
theorem ev_ii {i : Int} {q : Int → Prop} (h : EV R X e σ H (isI i)) (k : q i) : EV R X e σ H (isIp q) := h.imp fun v H1 _ p => ⟨i, k, p⟩
/-- [] that the place is not -/
theorem ev_nilB [Frs R] {α : Type} {pl : Addr} {F : α → HF} : EV R X (.List [] pos) σ H (lstF H F []) := ev_nilF
end
instance butFrs {pl : Addr} : Frs (But pl) := ⟨fun {H H1 a} r h => r.2.2 a h⟩
end Ly
set_option Elab.async false
set_option linter.all false
set_option maxRecDepth 100000
set_option maxHeartbeats 4000000
/-! The stream of draws: its making, a draw. -/
namespace Ly
open PySem PySem.Spec PyProof.Rows L2
theorem sq_same {K : PySem.W.Frag} {H H1 : Hp} {a : Addr} {xs : List V} (e : Same H H1) (h : SqL K H a xs) : SqL K H1 a xs :=
  h.imp (fun h => h.imp (fun h => e _ _ h) fun ⟨o, h⟩ => ⟨o, e _ _ h⟩) id
/-- the script, as it is handed in -/
def isScr (K : PySem.W.Frag) (ns : List Int) : HF := fun v H => ∃ a, v = .ref a ∧ SqL K H a (ns.map V.int)
instance {K : PySem.W.Frag} {ns : List Int} : Mo Same (isScr K ns) := ⟨fun {v H H1} e ⟨a, h, q⟩ => ⟨a, h, sq_same e q⟩⟩
abbrev anyI : HF := isIp fun _ => True
section
variable {Pg : Program} {w : World} {K : PySem.W.Frag} {mg : Str → Option Value} {base : Heap}
abbrev nCell : List Str := ["_law_script", "_law_k"]
theorem scCell : FnScope nCell ["_law_script", "_law_k"] (defScope sL_cell) := ⟨rfl, rfl, rfl, by decide +kernel, rfl, by decide +kernel, by decide +kernel⟩
theorem ok_Lcell (T : Tx K mg) : DefOk Pg w K mg base "_law_cell" 1 (spF (fun z : List Int × Nat => [isScr K z.1, isN z.2]) (fun z => z.1.length ≤ 63) fun z => anyI) := by
  refine mkDef T.g_L_cell T.k_L_cell T.d_L_cell scCell (fun _ => rfl) (fun _ _ _ _ _ _ us hl => match us, hl with | [_, _], _ => rfl) fun cdv A outer s H vs Q E z hr fit hc k => ?_
  obtain ⟨ns, i⟩ := z
  have hc : ns.length ≤ 63 := hc
  obtain ⟨x, _, rfl, hx, rfl⟩ := fit2 fit
  have hx : isScr K ns x H := hx
  refine b_when (R := Same) (et_c0 op_lt (ev_vv 1 rfl) (ev_b1 (P := isI (ns.length : Int)) call_len T.n_len PySem.boot_len (ea_cons (ev_var 0 rfl hx) ea_nil) (fun vs H1 r fit Q q => by
    obtain ⟨v, rfl, a, rfl, ha⟩ := fit1 fit
    exact ⟨_, ns.length, rfl, .inl ⟨_, ha, (List.length_map _).symm⟩, q _ _ (Rel.rf _) rfl⟩))) (fun ht H1 s1 => ?_) (fun _ H1 s1 => ?_)
  · have hi : i < ns.length := by
      have := of_decide_eq_true ht.symm
      omega
    refine b_ret (R := Same) (ev_intOfP (t := fun _ => True) T.n_int ?_) fun v H2 s2 pv => k v H2 (s1.trans s2) pv
    refine EV.by (pe_ix ix_list pe_re pe_re fun _ _ => rfl) fun H2 r Q q => two (ev_var (P := isScr K ns) 0 rfl (Mo.mo (R := Same) s1 hx)) (ev_vv 1 rfl) r fun u v H3 r2 ⟨a, eu, ha⟩ ev => ?_
    cases ev
    exact ⟨a, _, _, .int ns[i], eu, rfl, ha, atI_nat (by rw [List.getElem?_map, List.getElem?_eq_getElem hi]; rfl), q _ _ r2 ⟨_, trivial, rfl⟩⟩
  · exact b_ret (R := Same) ev_int fun v H2 s2 pv => k v H2 (s1.trans s2) ⟨0, trivial, pv⟩
abbrev nDraws : List Str := ["_law_cell_here", "_law_count", "_law_number", "_law_great", "_law_found", "_law_k", "_law_mixed"]
theorem scDraws : FnScope nDraws ["_law_cell_here", "_law_count"] (defScope sL_draws) := ⟨rfl, rfl, rfl, by decide +kernel, rfl, by decide +kernel, by decide +kernel⟩
/-- a list of n ints -/
abbrev intsL (n : Nat) : HF := exF (fun ds : List Int => ds.length = n) (lstOf isI)
theorem pow18 : (10 : Int) ^ ((18 : Int)).toNat = 1000000000000000000 := by decide +kernel
theorem ok_Ldraws (T : Tx K mg) : DefOk Pg w K mg base "_law_draws" 1 (spF (fun z : Unit => [anyI, isI 12]) (fun z => True) fun z => intsL 12) := by
  refine mkDef T.g_L_draws T.k_L_draws T.d_L_draws scDraws (fun _ => rfl) (fun _ _ _ _ _ _ us hl => match us, hl with | [_, _], _ => rfl) fun cdv A outer s H vs Q E z hr fit hc k => ?_
  obtain ⟨x, _, rfl, hx, rfl⟩ := fit2 fit
  obtain ⟨n, _, rfl⟩ := hx
  refine b_set (R := Same) 2 (ev_abs T.n_abs (ev_intOf T.n_int (ev_vv 0 rfl))) (fun v H1 s1 pv => ?_) scDraws.nd
  cases pv
  refine b_set (R := Same) 3 (ev_c0 op_ge (ev_vv 2 rfl) (ev_i1 op_pow ⟨by decide, by decide, by decide⟩ ev_int ev_int pow18)) (fun v H2 s2 pv => ?_) scDraws.nd
  cases pv
  generalize hgr : decide ((1000000000000000000 : Int) ≤ (n.natAbs : Int)) = g
  refine b_set (R := Same) 4 (ev_nilF (F := isI)) (fun v H3 s3 pv => ?_) scDraws.nd
  obtain ⟨p, xs, rfl, hnew, hp, qx⟩ := pv
  have s12 := s1.trans s2
  have up1 : ∀ {H7 : Hp} {o' : HO}, Same H2 H7 → Same H2 (upd H7 p o') := fun s7 b o hb => by
    rw [upd_ne (ne_of_none hb hnew)]
    exact s7 _ _ hb
  refine b_forR1 (R := Same) 5 ev_int (by decide) T.n_range (fun i σ H4 => ∃ m kk mm xs ds, σ = [some (.int n), some (.int 12), some (.int m), some (.bl g), some (.ref p), kk, mm] ∧ (g = false → 0 ≤ m ∧ m < 1000000000000000000) ∧ H4 p = some (.lst xs) ∧ All2 isI xs ds H4 ∧ ds.length = min i 12 ∧ Same H2 H4)
    (fun H4 s4 => ⟨_, none, none, xs, [], rfl, fun hg => by
      rw [hg] at hgr
      have := of_decide_eq_false hgr
      omega, s4 _ _ hp, qx.mo (R := Same) s4, rfl, s3.trans s4⟩) (fun i σ H4 hi hW => ?_) (fun σ H4 hW => ?_) scDraws.nd PassesOwn.never
  · obtain ⟨m, kk, mm, xs, ds, rfl, hm, hp4, q4, hl, s4⟩ := hW
    have app : ∀ (m1 : Int) (mm1 : Option V) (d : Int) (H5 : Hp), i < 12 → (g = false → 0 ≤ m1 ∧ m1 < 1000000000000000000) → Same H4 H5 → ∃ m kk mm xs1 ds, ([some (.int n), some (.int 12), some (.int m1), some (.bl g), some (.ref p), some (.int (i : Int)), mm1] : SS) = [some (.int n), some (.int 12), some (.int m), some (.bl g), some (.ref p), kk, mm] ∧ (g = false → 0 ≤ m ∧ m < 1000000000000000000) ∧ (upd H5 p (.lst (xs ++ [.int d]))) p = some (.lst xs1) ∧ All2 isI xs1 ds (upd H5 p (.lst (xs ++ [.int d]))) ∧ ds.length = min (i + 1) 12 ∧ Same H2 (upd H5 p (.lst (xs ++ [.int d]))) := by
      intro m1 mm1 d H5 hi2 hm1 s5
      refine ⟨m1, _, mm1, _, ds ++ [d], rfl, hm1, upd_same, ?_, by rw [List.length_append, hl]; simp; omega, up1 (s4.trans s5)⟩
      exact All2.mo (R := Nl) (nl_upd (s5 _ _ hp4)) ((q4.mo (R := Same) s5).snoc rfl)
    have lx : xs.length ≤ 12 := by rw [q4.1, hl]; omega
    refine b_if (R := Same) (et_w (ew_and (p := (· = decide ((i : Int) < 12))) (q := (· = g)) (t := (· = (decide ((i : Int) < 12) && g))) (et_c0 op_lt (ev_vv 5 rfl) (ev_vv 1 rfl)) (fun _ => ew_and1 (et_vb (ev_vv 3 rfl))) (fun h => by rw [← h]; rfl) (fun v h1 h2 => by rw [← h1, h2]; rfl))) (fun ht H5 s5 => ?_) (fun ht H5 s5 => ?_)
    · obtain ⟨hi2, hg⟩ := (Bool.and_eq_true _ _).mp ht.symm |> fun h => (⟨of_decide_eq_true h.1, h.2⟩ : (i : Int) < 12 ∧ g = true)
      refine b_app (R := Same) (Pa := atP p (.lst xs)) (Pb := anyI) (ev_var 4 rfl ⟨rfl, s5 _ _ hp4⟩) (ev_modp (p := fun _ => True) (q := (· = 60)) (ev_ii (ev_vv 2 rfl) trivial) (ev_ip ev_int) (fun i j _ hj => ⟨by omega, trivial⟩)) (fun o H6 _ po => ⟨p, xs, po.1, po.2⟩) (fun o v H6 s6 po pv => ?_)
      obtain ⟨d, _, rfl⟩ := pv
      refine ⟨p, xs, po.1, po.2, by omega, ?_⟩
      refine b_set (R := Same) 2 (P := anyI) (ev_divp (p := fun _ => True) (q := (· = 60)) (ev_ii (ev_vv 2 rfl) trivial) (ev_ip ev_int) (fun i j _ hj => ⟨by omega, trivial⟩)) (fun v H7 s7 pv => RSs.nil (RSs.nil ?_)) scDraws.nd
      obtain ⟨m1, _, rfl⟩ := pv
      obtain ⟨m', kk', mm', xs', ds', e1, e2, e3, e4, e5, e6⟩ := app m1 mm d H6 (by omega) (fun h => by rw [hg] at h; cases h) (s5.trans s6)
      exact ⟨m', kk', mm', xs', ds', e1, e2, s7 _ _ e3, e4.mo (R := Same) s7, e5, e6.trans s7⟩
    · refine b_when (R := Same) (et_c0 op_lt (ev_vv 5 rfl) (ev_vv 1 rfl)) (fun ht2 H6 s6 => ?_) (fun ht2 H6 s6 => RSs.nil (RSs.nil ?_))
      · have hi2 : (i : Int) < 12 := of_decide_eq_true ht2.symm
        have hg : g = false := by
          rw [show decide ((i : Int) < 12) = true from ht2.symm] at ht
          cases g
          · rfl
          · cases ht
        have hm2 := hm hg
        refine b_set (R := Same) 6 (P := isIp fun z => 0 ≤ z ∧ z < 2147483647) (ev_modp (p := fun _ => True) (q := (· = 2147483647)) (ev_addp (p := fun _ => True) (q := fun _ => True) (ev_addp (p := fun _ => True) (q := fun _ => True) (ev_mulp (p := (· = m)) (q := fun _ => True) (ev_intOfP T.n_int (ev_ip (ev_vv 2 rfl))) (ev_ii ev_int trivial) (fun i j hi hj => ⟨by omega, trivial⟩)) (ev_mulp (p := (· = (i : Int))) (q := fun _ => True) (ev_ip (ev_vv 5 rfl)) (ev_ii ev_int trivial) (fun i j hi hj => ⟨by omega, trivial⟩)) (fun _ _ _ _ => trivial)) (ev_ii ev_int trivial) (fun _ _ _ _ => trivial)) (ev_ip ev_int) (fun i j _ hj => (by have hj : j = 2147483647 := hj; subst hj; omega))) (fun v H7 s7 pv => ?_) scDraws.nd
        obtain ⟨c, hc, rfl⟩ := pv
        refine b_set (R := Same) 6 (P := isIp fun z => 0 ≤ z ∧ z < 998244353) (ev_modp (p := fun _ => True) (q := (· = 998244353)) (ev_addp (p := fun _ => True) (q := fun _ => True) (ev_addp (p := fun _ => True) (q := fun _ => True) (ev_mulp (p := (· = c)) (q := fun _ => True) (ev_intOfP T.n_int (ev_ip (ev_vv 6 rfl))) (ev_intOfP T.n_int (ev_ii (ev_vv 6 rfl) trivial)) (fun i j hi hj => ⟨by omega, trivial⟩)) (ev_mulp (p := (· = (i : Int))) (q := fun _ => True) (ev_ip (ev_vv 5 rfl)) (ev_ii ev_int trivial) (fun i j hi hj => ⟨by omega, trivial⟩)) (fun _ _ _ _ => trivial)) (ev_ii ev_int trivial) (fun _ _ _ _ => trivial)) (ev_ip ev_int) (fun i j _ hj => (by have hj : j = 998244353 := hj; subst hj; omega))) (fun v H8 s8 pv => ?_) scDraws.nd
        obtain ⟨c2, hc2, rfl⟩ := pv
        have s58 := s5.trans (s6.trans (s7.trans s8))
        refine b_app (R := Same) (Pa := atP p (.lst xs)) (Pb := anyI) (ev_var 4 rfl ⟨rfl, s58 _ _ hp4⟩) (ev_modp (p := fun _ => True) (q := (· = 60)) (ev_intOfP T.n_int (ev_ii (ev_vv 6 rfl) trivial)) (ev_ip ev_int) (fun i j _ hj => ⟨by omega, trivial⟩)) (fun o H6 _ po => ⟨p, xs, po.1, po.2⟩) (fun o v H9 s9 po pv => ?_)
        obtain ⟨d, _, rfl⟩ := pv
        exact ⟨p, xs, po.1, po.2, by omega, RSs.nil (RSs.nil (RSs.nil (app m _ d H9 (by omega) hm (s58.trans s9))))⟩
      · have hi2 : ¬ (i : Int) < 12 := of_decide_eq_false ht2.symm
        exact ⟨m, _, mm, xs, ds, rfl, hm, s6 _ _ (s5 _ _ hp4), q4.mo (R := Same) (s5.trans s6), by omega, s4.trans (s5.trans s6)⟩
  · obtain ⟨m, kk, mm, xs, ds, rfl, hm, hp4, q4, hl, s4⟩ := hW
    have hv : intsL 12 (.ref p) H4 := ⟨ds, hl, p, xs, rfl, hp4, q4⟩
    exact b_ret (R := Same) (ev_var (P := intsL 12) 4 rfl hv) fun v H5 s5 pv => k v H5 (s12.trans (s4.trans s5)) pv
end
end Ly
set_option Elab.async false
set_option linter.all false
set_option maxRecDepth 100000
set_option maxHeartbeats 4000000
/-! The stream, a draw. -/
namespace Ly
open PySem PySem.Spec PyProof.Rows L2
instance {α : Type} {H0 : Hp} {F : α → HF} {as : List α} [∀ a, Mo Same (F a)] : Mo Same (lstF H0 F as) := ⟨fun {v H H1} e h => by
  obtain ⟨a, xs, rfl, n, ha, q⟩ := h
  exact ⟨a, xs, rfl, n, e _ _ ha, q.mo e⟩⟩
instance {R : Hp → Hp → Prop} {P : HF} [h : Mo R P] : Mo R (id P) := h
section
variable {R : Hp → Hp → Prop} {X : Cx} {σ : SS} {H H' : Hp} {P P' Pa Pb Pc : HF} {D : Ends} [Rel R] {e a b c : Expr} {es : List Expr} {pos p apos : Pos}
/-- a list display: a list that was not there -/
theorem ev_dispF [Frs R] {α : Type} {F : α → HF} {as : List α} (h : EA R X es σ H (as.map F)) (hF : ∀ a ∈ as, Mo Same (F a)) (hl : decide (as.length ≤ 1000) = true := by rfl) : EV R X (.List es pos) σ H (lstF H F as) :=
  EV.by (pe_lst pa_ra) fun H1 r Q k => h H1 r _ fun vs H2 r2 f => ⟨Nat.le_trans (by rw [f.len, List.length_map]; exact of_decide_eq_true hl) (by decide), fun p hp' => by
    have q := f.all2
    refine k _ _ (Rel.tr r2 (Rel.sm (smn hp'))) ⟨p, vs, rfl, Frs.fr (Rel.tr r r2) hp', upd_same, by rw [q.1, List.length_map], fun i x a h1 h2 => ?_⟩
    exact (hF a (List.mem_of_getElem? h2)).mo (smn hp') (q.2 i x (F a) h1 (by rw [List.getElem?_map, h2]; rfl))⟩
end
section
variable {Pg : Program} {w : World} {K : PySem.W.Frag} {mg : Str → Option Value} {base : Heap}
abbrev nStream : List Str := ["_law_script", "_law_first", "_law_count", "_law_found", "_law_k"]
theorem scStream : FnScope nStream ["_law_script", "_law_first", "_law_count"] (defScope sL_stream) := ⟨rfl, rfl, rfl, by decide +kernel, rfl, by decide +kernel, by decide +kernel⟩
theorem ok_Lstream (T : Tx K mg) : DefOk Pg w K mg base "_law_stream" 2 (spF (fun z : List Int => [isScr K z, isI 0, isI 40]) (fun z => z.length ≤ 63) fun z => fun v H => ∃ pl, isStr pl v H) := by
  refine mkDef T.g_L_stream T.k_L_stream T.d_L_stream scStream (fun _ => rfl) (fun _ _ _ _ _ _ us hl => match us, hl with | [_, _, _], _ => rfl) fun cdv A outer s H vs Q E ns hr fit hc k => ?_
  have hc : ns.length ≤ 63 := hc
  obtain ⟨x, _, _, rfl, hx, rfl, rfl⟩ := fit3 fit
  have hx : isScr K ns x H := hx
  refine b_set (R := Same) 3 (ev_nilF (F := isI)) (fun v H1 s1 pv => ?_) scStream.nd
  obtain ⟨p, xs, rfl, hnew, hp, qx⟩ := pv
  have up1 : ∀ {H7 : Hp} {o' : HO}, Same H H7 → Same H (upd H7 p o') := fun s7 b o hb => by
    rw [upd_ne (ne_of_none hb hnew)]
    exact s7 _ _ hb
  refine b_forR1 (R := Same) 4 (ev_vv 2 rfl) (by decide) T.n_range (fun i σ H4 => ∃ kk xs ds, σ = [some x, some (.int 0), some (.int 40), some (.ref p), kk] ∧ H4 p = some (.lst xs) ∧ All2 isI xs ds H4 ∧ ds.length = 12 * i ∧ Same H H4)
    (fun H4 s4 => ⟨none, xs, [], rfl, s4 _ _ hp, qx.mo (R := Same) s4, rfl, s1.trans s4⟩) (fun i σ H4 hi hW => ?_) (fun σ H4 hW => ?_) scStream.nd PassesOwn.never
  · obtain ⟨kk, xs, ds, rfl, hp4, q4, hl, s4⟩ := hW
    have lx : xs.length = 12 * i := by rw [q4.1, hl]
    refine b_ext (R := Same) (Pa := atP p (.lst xs)) (ev_var 3 rfl ⟨rfl, hp4⟩) (ev_call (ok_Ldraws T) hr () trivial (ea_cons (ev_call (ok_Lcell T) hr (ns, i) hc (ea_cons (ev_var 0 rfl (Mo.mo (R := Same) s4 hx)) (ea_cons (ev_is (ev_add (ev_vv 1 rfl) (ev_vv 4 rfl)) (by congr 1; omega)) ea_nil))) (ea_cons ev_int ea_nil))) (fun o H6 _ po => ⟨p, xs, po.1, po.2⟩) (fun o v H6 s6 po pv => ?_)
    obtain ⟨es, hes, q, ys, rfl, hq, qy⟩ := pv
    have ly : ys.length = 12 := by rw [qy.1]; exact hes
    refine ⟨p, xs, q, ys, po.1, rfl, po.2, hq, by omega, RSs.nil ⟨_, xs ++ ys, ds ++ es, rfl, upd_same, ?_, by rw [List.length_append, hl, show es.length = 12 from hes]; omega, up1 (s4.trans s6)⟩⟩
    refine ⟨by rw [List.length_append, List.length_append, q4.1, qy.1], fun j u a h1 h2 => ?_⟩
    by_cases hj : j < xs.length
    · rw [List.getElem?_append_left hj] at h1
      rw [List.getElem?_append_left (by rw [← q4.1]; exact hj)] at h2
      exact q4.2 j u a h1 h2
    · rw [List.getElem?_append_right (by omega)] at h1
      rw [List.getElem?_append_right (by rw [← q4.1]; omega), ← q4.1] at h2
      exact qy.2 _ u a h1 h2
  · obtain ⟨kk, xs, ds, rfl, hp4, q4, hl, s4⟩ := hW
    refine b_ret (R := Same) (ev_dispF (F := id) (as := [atP p (.lst xs), lstF H4 isI [0]]) (ea_cons (ev_var (P := atP p (.lst xs)) 3 rfl ⟨rfl, hp4⟩) (ea_cons (ev_dispF (F := isI) (as := [0]) (ea_cons ev_int ea_nil) (fun _ _ => inferInstance)) ea_nil)) (fun a ha => ?_)) fun v H5 s5 pv => k v H5 (s4.trans s5) ?_
    · rcases List.mem_cons.mp ha with e | h
      · rw [e]; exact inferInstanceAs (Mo Same (atP p (.lst xs)))
      · rw [List.mem_singleton.mp h]; exact inferInstanceAs (Mo Same (lstF H4 isI [0]))
    · obtain ⟨s, us, rfl, hs, hs5, qu⟩ := pv
      have lu : us.length = 2 := qu.1
      match us, lu with
      | [u1, u2], _ =>
        obtain ⟨rfl, hp5⟩ : u1 = .ref p ∧ H5 p = some (.lst xs) := qu.2 0 u1 _ rfl rfl
        obtain ⟨pl, zs, rfl, hpl, hpl5, qz⟩ : lstF H4 isI [0] u2 H5 := qu.2 1 u2 _ rfl rfl
        have lz : zs.length = 1 := qz.1
        match zs, lz with
        | [z], _ =>
          cases (show z = .int 0 from qz.2 0 z 0 rfl rfl)
          refine ⟨pl, s, p, xs, 0, rfl, fun e => ?_, fun e => ?_, hs5, hp5, fun e => ?_, fun y hy => ?_, hpl5⟩
          · rw [e, hpl5] at hs5
            cases hs5
          · rw [e, hpl] at hp4
            cases hp4
          · have := q4.1
            rw [e, hl] at this
            cases this
          · obtain ⟨i, hi⟩ := List.mem_iff_getElem?.mp hy
            obtain ⟨a, _, ha⟩ := q4.get' hi
            exact ⟨a, ha⟩
abbrev nNext : List Str := ["_law_stream_here", "_law_many", "_law_digits", "_law_place", "_law_value"]
theorem scNext : FnScope nNext ["_law_stream_here", "_law_many"] (defScope sL_next) := ⟨rfl, rfl, rfl, by decide +kernel, rfl, by decide +kernel, by decide +kernel⟩
theorem ok_Lnext (T : Tx K mg) : DefOk Pg w K mg base "_law_next" 1 (spD (fun z : Addr × Int => [isStr z.1, isI z.2]) (fun z => 0 < z.2) (fun z => z.1) fun z => isIp fun i => 0 ≤ i ∧ i < z.2) := by
  refine mkDefD T.g_L_next T.k_L_next T.d_L_next scNext (fun _ => rfl) (fun _ _ _ _ _ _ us hl => match us, hl with | [_, _], _ => rfl) fun cdv A outer s H vs Q E z hr fit hc k => ?_
  obtain ⟨pl, m⟩ := z
  have hc : 0 < m := hc
  obtain ⟨x, _, rfl, hx, rfl⟩ := fit2 fit
  obtain ⟨s, d, ds, kk, rfl, n1, n2, h1, h2, h3, h4, h5⟩ : isStr pl x H := hx
  have ix : ∀ {X : Cx} {σ : SS} {H0 : Hp} {a b : Expr} {pos : Pos} {p : Addr} {xs : List V} {i : Nat} {v : V}, xs[i]? = some v → EV Same X a σ H0 (atP p (.lst xs)) → EV Same X b σ H0 (isI (i : Int)) → PlainIx b → EV Same X (.Subscript a b pos) σ H0 (isV v) := fun {X σ H0 a b pos p xs i v} hv ha hb hs =>
    EV.by (pe_ix ix_list pe_re pe_re hs) fun H1 r Q q => two ha hb r fun u w H2 r2 pa pb => by
      cases pb
      exact ⟨p, xs, _, v, pa.1, rfl, SqL.of pa.2, atI_nat hv, q v H2 r2 rfl⟩
  refine b_set (R := Same) 2 (ix (i := 0) rfl (ev_var (P := atP s _) 0 rfl ⟨rfl, h1⟩) ev_int (fun _ _ => rfl)) (fun v H1 s1 pv => ?_) scNext.nd
  cases pv
  refine b_set (R := Same) 3 (ix (i := 1) rfl (ev_var (P := atP s _) 0 rfl ⟨rfl, s1 _ _ h1⟩) ev_int (fun _ _ => rfl)) (fun v H2 s2 pv => ?_) scNext.nd
  cases pv
  have s12 := s1.trans s2
  have hd : 0 < ds.length := by
    cases ds with
    | nil => exact absurd rfl h3
    | cons => simp
  refine b_set (R := Same) 4 (P := isIp fun i => 0 ≤ i ∧ i < m) (ev_modp (p := fun _ => True) (q := (· = m)) (ev_intOfP (t := fun _ => True) T.n_int ?_) (ev_ip (ev_vv 1 rfl)) (fun i j _ hj => ?_)) (fun v H3 s3 pv => ?_) scNext.nd
  · refine EV.by (pe_ix ix_list pe_re pe_re (fun _ _ => rfl)) fun H1 r Q q => two (Pb := isIp fun i => 0 ≤ i ∧ i < (ds.length : Int)) (ev_var (P := atP d (.lst ds)) 2 rfl ⟨rfl, s12 _ _ h2⟩) (ev_modp (p := fun _ => True) (q := (· = (ds.length : Int))) (ev_intOfP (t := fun _ => True) T.n_int ((ix (i := 0) rfl (ev_var (P := atP pl _) 3 rfl ⟨rfl, s12 _ _ h5⟩) ev_int (fun _ _ => rfl)).imp fun v H _ p => ⟨kk, trivial, p⟩)) (ev_ip (ev_b1 (P := isI (ds.length : Int)) call_len T.n_len PySem.boot_len (ea_cons (ev_var (P := atP d (.lst ds)) 2 rfl ⟨rfl, s12 _ _ h2⟩) ea_nil) (fun vs H1 r fit Q q => by
      obtain ⟨v, rfl, pv⟩ := fit1 fit
      exact ⟨_, ds.length, rfl, by rw [pv.1]; exact .inl ⟨_, SqL.of pv.2, rfl⟩, q _ _ (Rel.rf _) rfl⟩))) (fun i j _ hj => ?_)) r fun u w H2 r2 pa pb => ?_
    · have hj : j = (ds.length : Int) := hj
      subst hj
      exact ⟨by omega, Int.emod_nonneg _ (by omega), Int.emod_lt_of_pos _ (by omega)⟩
    · obtain ⟨i, ⟨hi0, hi1⟩, rfl⟩ := pb
      obtain ⟨j, rfl⟩ := Int.eq_ofNat_of_zero_le hi0
      have hj : j < ds.length := by omega
      obtain ⟨z, hz⟩ := h4 ds[j] (List.getElem_mem hj)
      exact ⟨d, ds, _, _, pa.1, rfl, SqL.of pa.2, atI_nat (List.getElem?_eq_getElem hj), q _ _ r2 ⟨z, trivial, hz⟩⟩
  · have hj : j = m := hj
    subst hj
    exact ⟨hc, Int.emod_nonneg _ (by omega), Int.emod_lt_of_pos _ hc⟩
  · have s13 := s12.trans s3
    refine b_put (R := Same) (F := Unit) (Pa := isI (kk + 1)) (Pb := atP pl (.lst [.int kk])) (Pc := isI 0) (ev_add (ix (i := 0) rfl (ev_var (P := atP pl _) 3 rfl ⟨rfl, s13 _ _ h5⟩) ev_int (fun _ _ => rfl)) ev_int) (ev_var 3 rfl ⟨rfl, s13 _ _ h5⟩) ev_int (fun u o i H4 s4 pu po pi => ?_)
    cases pu; cases pi
    refine ⟨pl, _, 0, 0, po.1, rfl, po.2, rfl, ?_⟩
    have bt : But pl H (upd H4 pl (.lst [.int (kk + 1)])) := by
      have s14 := s13.trans s4
      refine ⟨fun b o hb n => ?_, fun k hk => ⟨_, upd_same⟩, fun b hb => ?_⟩
      · by_cases e : b = pl
        · rw [e, h5] at hb
          cases hb
          rcases n with n | n
          · exact absurd e n
          · exact absurd rfl (n _)
        · rw [upd_ne e]
          exact s14 _ _ hb
      · by_cases e : b = pl
        · rw [e, upd_same] at hb
          cases hb
        · rw [upd_ne e] at hb
          exact Same.free s14 hb
    exact b_ret (R := Same) (ev_var (P := isIp fun i => 0 ≤ i ∧ i < m) 4 rfl pv) fun v H5 s5 pv => k v H5 (Rel.tr bt (Rel.sm s5)) pv
end
end Ly
set_option Elab.async false
set_option linter.all false
set_option maxRecDepth 100000
set_option maxHeartbeats 4000000
/-! The law's own arithmetic: pairs of ints in least terms. -/
namespace Ly
open PySem PySem.Spec PyProof.Rows L2
/-- a pair in least terms -/
def isP (q : Rat) : HF := tupOf isI [q.num, (q.den : Int)]
instance {R : Hp → Hp → Prop} [Rel R] {q : Rat} : Mo R (isP q) := inferInstanceAs (Mo R (tupOf isI _))
theorem moP (q : Rat) : Mo Nl (isP q) := inferInstance
section
variable {Pg : Program} {w : World} {K : PySem.W.Frag} {mg : Str → Option Value} {base : Heap}
abbrev nPart : List Str := ["_law_first", "_law_second", "_law_k", "_law_rest"]
theorem scPart : FnScope nPart ["_law_first", "_law_second"] (defScope sL_part) := ⟨rfl, rfl, rfl, by decide +kernel, rfl, by decide +kernel, by decide +kernel⟩
theorem ok_Lpart (T : Tx K mg) : DefOk Pg w K mg base "_law_part" 1 (spF (fun z : Int × Int => [isI z.1, isI z.2]) (fun z => z.2.natAbs < 2 ^ 410) fun z => isI (Int.gcd z.1 z.2 : Int)) := by
  refine mkDef T.g_L_part T.k_L_part T.d_L_part scPart (fun _ => rfl) (fun _ _ _ _ _ _ us hl => match us, hl with | [_, _], _ => rfl) fun cdv A outer s H vs Q E z hr fit hc k => ?_
  obtain ⟨t, b⟩ := z
  have hc : b.natAbs < 2 ^ 410 := hc
  obtain ⟨_, _, rfl, rfl, rfl⟩ := fit2 fit
  refine b_set (R := Same) 0 (ev_abs T.n_abs (ev_vv 0 rfl)) (fun v H1 s1 pv => ?_) scPart.nd
  cases pv
  refine b_set (R := Same) 1 (ev_abs T.n_abs (ev_vv 1 rfl)) (fun v H2 s2 pv => ?_) scPart.nd
  cases pv
  refine b_forR1 (R := Same) 2 ev_int (by decide) T.n_range (fun i σ H3 => ∃ (p : Nat × Nat) (kk rr : Option V), σ = [some (.int p.1), some (.int p.2), kk, rr] ∧ p = CM.eit i (t.natAbs, b.natAbs) ∧ Same H H3)
    (fun H3 s3 => ⟨_, none, none, rfl, rfl, s1.trans (s2.trans s3)⟩) (fun i σ H3 hi hW => ?_) (fun σ H3 hW => ?_) scPart.nd PassesOwn.never
  · obtain ⟨⟨x, y⟩, kk, rr, rfl, e, s3⟩ := hW
    have es : CM.eit (i + 1) (t.natAbs, b.natAbs) = CM.estep (x, y) := by
      show CM.estep (CM.eit i _) = _
      rw [e]
    refine b_when (R := Same) (et_c0 op_gt (ev_vv 1 rfl) ev_int) (fun ht H4 s4 => ?_) (fun ht H4 s4 => RSs.nil ?_)
    · have hy : (0 : Int) < (y : Int) := of_decide_eq_true ht.symm
      refine b_set (R := Same) 3 (ev_i1 op_mod hy (ev_vv 0 rfl) (ev_vv 1 rfl)) (fun v H5 s5 pv => ?_) scPart.nd
      cases pv
      refine b_set (R := Same) 0 (ev_vv 1 rfl) (fun v H6 s6 pv => ?_) scPart.nd
      cases pv
      refine b_set (R := Same) 1 (ev_vv 3 rfl) (fun v H7 s7 pv => RSs.nil (RSs.nil ?_)) scPart.nd
      cases pv
      refine ⟨(y, x % y), some (.int (i : Int)), some (.int ((x : Int) % (y : Int))), ?_, ?_, s3.trans (s4.trans (s5.trans (s6.trans s7)))⟩
      · show [some (V.int (y : Int)), some (V.int ((x : Int) % (y : Int))), _, _] = [some (V.int (y : Int)), some (V.int ((x % y : Nat) : Int)), _, _]
        rw [Int.natCast_emod]
      · rw [es]
        unfold CM.estep
        rw [if_pos (show 0 < y by omega)]
    · have hy : ¬ (0 : Int) < (y : Int) := of_decide_eq_false ht.symm
      refine ⟨(x, y), _, _, rfl, ?_, s3.trans s4⟩
      rw [es]
      unfold CM.estep
      rw [if_neg (show ¬ 0 < y by omega)]
  · obtain ⟨p, kk, rr, rfl, e, s3⟩ := hW
    refine b_ret (R := Same) (ev_vv 0 rfl) fun v H5 s5 pv => k v H5 (s3.trans s5) ?_
    cases pv
    show V.int (p.1 : Int) = V.int _
    rw [e]
    show V.int ((CM.eit 600 (t.natAbs, b.natAbs)).1 : Int) = _
    rw [CM.eit600_gcd _ _ hc]
    rfl
abbrev nLeast : List Str := ["_law_top", "_law_bottom", "_law_part_here"]
theorem scLeast : FnScope nLeast ["_law_top", "_law_bottom"] (defScope sL_least) := ⟨rfl, rfl, rfl, by decide +kernel, rfl, by decide +kernel, by decide +kernel⟩
theorem ok_Lleast (T : Tx K mg) : DefOk Pg w K mg base "_law_least" 2 (spF (fun z : Int × Int => [isI z.1, isI z.2]) (fun z => 0 < z.2 ∧ z.2.natAbs < 2 ^ 410) fun z => isP (Rat.divInt z.1 z.2)) := by
  refine mkDef T.g_L_least T.k_L_least T.d_L_least scLeast (fun _ => rfl) (fun _ _ _ _ _ _ us hl => match us, hl with | [_, _], _ => rfl) fun cdv A outer s H vs Q E z hr fit hc k => ?_
  obtain ⟨t, b⟩ := z
  obtain ⟨hb, h2⟩ := hc
  have hb : 0 < b := hb
  have h2 : b.natAbs < 2 ^ 410 := h2
  obtain ⟨_, _, rfl, rfl, rfl⟩ := fit2 fit
  have hg0 : 0 < Int.gcd t b := CM.gcd_pos hb
  have hg1 : (Int.gcd t b) < 2 ^ 410 := Nat.lt_of_le_of_lt (CM.gcd_le hb) h2
  refine b_set (R := Same) 2 (ev_call (ok_Lpart T) hr (t, b) h2 (ea_cons (ev_vv 0 rfl) (ea_cons (ev_vv 1 rfl) ea_nil))) (fun v H2 s2 pv => ?_) scLeast.nd
  cases pv
  refine b_when (R := Same) (et_c0 op_lt (ev_vv 1 rfl) ev_int) (fun ht => ?_) (fun ht H3 s3 => ?_)
  · have e : b < 0 := of_decide_eq_true ht.symm
    omega
  have cd : CDivW 0 (Int.gcd t b : Int) := wide_div (b := 410) (by omega) (by simpa using hg1) (by decide) (by decide)
  refine b_ret (R := Same) (ev_tupU (F := isI) (as := [t / (Int.gcd t b : Int), b / (Int.gcd t b : Int)]) (ea_cons (ev_i1 op_fdivW (show CDivW t (Int.gcd t b : Int) from cd) (ev_vv 0 rfl) (ev_vv 2 rfl)) (ea_cons (ev_i1 op_fdivW (show CDivW b (Int.gcd t b : Int) from cd) (ev_vv 1 rfl) (ev_vv 2 rfl)) ea_nil)) (fun _ => inferInstance)) fun v H4 s4 pv => k v H4 (s2.trans (s3.trans s4)) ?_
  show tupOf isI [(Rat.divInt t b).num, ((Rat.divInt t b).den : Int)] v H4
  rw [CM.divInt_num hb, CM.divInt_den hb]
  exact pv
end
section
variable {R : Hp → Hp → Prop} {X : Cx} {σ : SS} {H H' : Hp} {P P' Pa Pb Pc : HF} {D : Ends} [Rel R] {e a b c : Expr} {es : List Expr} {pos p apos : Pos} {q : Rat}
theorem ev_p0 {j : Nat} {p2 : Pos} (ha : EV R X a σ H (isP q)) : EV R X (.Subscript a (.Constant (.int 0) j p2) pos) σ H (isI q.num) := ev_ixT (F := isI) (as := [q.num, (q.den : Int)]) (z := q.num) ha ev_int
theorem ev_p1 {j : Nat} {p2 : Pos} (ha : EV R X a σ H (isP q)) : EV R X (.Subscript a (.Constant (.int 1) j p2) pos) σ H (isI (q.den : Int)) := ev_ixT (F := isI) (as := [q.num, (q.den : Int)]) (z := (q.den : Int)) ha ev_int
/-- a product of two sized ints -/
theorem ev_mulB {i j : Int} {n m : Nat} (hi : i.natAbs < 2 ^ n) (hj : j.natAbs < 2 ^ m) (hn : 0 < n) (hm : 0 < m) (hs : n + m ≤ 1000000) (ha : EV R X a σ H (isI i)) (hb : EV R X b σ H (isI j)) : EV R X (.BinOp a .Mult b pos) σ H (isI (i * j)) :=
  ev_mul hi hj (by simp [hn, hm, hs]) ha hb
end
section
variable {Pg : Program} {w : World} {K : PySem.W.Frag} {mg : Str → Option Value} {base : Heap}
/-- what the law's arithmetic takes: sized, the denominators' product small -/
def condP (z : Rat × Rat) : Prop := CM.Bd 2000 z.1 ∧ CM.Bd 2000 z.2 ∧ z.1.den * z.2.den < 2 ^ 410
theorem condP.pos {z : Rat × Rat} (h : condP z) : (0 : Int) < (z.1.den : Int) * (z.2.den : Int) ∧ ((z.1.den : Int) * (z.2.den : Int)).natAbs < 2 ^ 410 := ⟨CM.mulpos, by
  rw [show (z.1.den : Int) * (z.2.den : Int) = ((z.1.den * z.2.den : Nat) : Int) by rw [Int.natCast_mul]]
  exact h.2.2⟩
theorem Bd.numA {n : Nat} {q : Rat} (h : CM.Bd n q) : q.num.natAbs < 2 ^ n := h.1
theorem Bd.denA {n : Nat} {q : Rat} (h : CM.Bd n q) : ((q.den : Int)).natAbs < 2 ^ n := CM.lt_den h
theorem scSumL : FnScope ["_law_p", "_law_q"] ["_law_p", "_law_q"] (defScope sL_sum) := ⟨rfl, rfl, rfl, by decide +kernel, rfl, by decide +kernel, by decide +kernel⟩
theorem scLessL : FnScope ["_law_p", "_law_q"] ["_law_p", "_law_q"] (defScope sL_less) := ⟨rfl, rfl, rfl, by decide +kernel, rfl, by decide +kernel, by decide +kernel⟩
theorem scTimesL : FnScope ["_law_p", "_law_q"] ["_law_p", "_law_q"] (defScope sL_times) := ⟨rfl, rfl, rfl, by decide +kernel, rfl, by decide +kernel, by decide +kernel⟩
theorem ok_Lsum (T : Tx K mg) : DefOk Pg w K mg base "_law_sum" 3 (spF (fun z : Rat × Rat => [isP z.1, isP z.2]) condP fun z => isP (z.1 + z.2)) := by
  refine mkDef T.g_L_sum T.k_L_sum T.d_L_sum scSumL (fun _ => rfl) (fun _ _ _ _ _ _ us hl => match us, hl with | [_, _], _ => rfl) fun cdv A outer s H vs Q E z hr fit hc k => ?_
  have hd := hc.pos
  obtain ⟨p, q⟩ := z
  obtain ⟨h1, h2, h3⟩ := hc
  obtain ⟨x, y, rfl, hx, hy⟩ := fit2 fit
  have hx : isP p x H := hx
  have hy : isP q y H := hy
  have h1 : CM.Bd 2000 p := h1
  have h2 : CM.Bd 2000 q := h2
  refine b_ret (R := Same) (ev_call (ok_Lleast T) hr (p.num * (q.den : Int) + q.num * (p.den : Int), (p.den : Int) * (q.den : Int)) hd (ea_cons (ev_add (ev_mulB h1.1 (CM.lt_den h2) (by decide) (by decide) (by decide) (ev_p0 (ev_var 0 rfl hx)) (ev_p1 (ev_var 1 rfl hy))) (ev_mulB h2.1 (CM.lt_den h1) (by decide) (by decide) (by decide) (ev_p0 (ev_var 1 rfl hy)) (ev_p1 (ev_var 0 rfl hx)))) (ea_cons (ev_mulB (CM.lt_den h1) (CM.lt_den h2) (by decide) (by decide) (by decide) (ev_p1 (ev_var 0 rfl hx)) (ev_p1 (ev_var 1 rfl hy))) ea_nil))) fun v H1 s1 pv => k v H1 s1 ?_
  rw [CM.q_add] at pv
  exact pv
theorem ok_Lless (T : Tx K mg) : DefOk Pg w K mg base "_law_less" 3 (spF (fun z : Rat × Rat => [isP z.1, isP z.2]) condP fun z => isP (z.1 - z.2)) := by
  refine mkDef T.g_L_less T.k_L_less T.d_L_less scLessL (fun _ => rfl) (fun _ _ _ _ _ _ us hl => match us, hl with | [_, _], _ => rfl) fun cdv A outer s H vs Q E z hr fit hc k => ?_
  have hd := hc.pos
  obtain ⟨p, q⟩ := z
  obtain ⟨h1, h2, h3⟩ := hc
  obtain ⟨x, y, rfl, hx, hy⟩ := fit2 fit
  have hx : isP p x H := hx
  have hy : isP q y H := hy
  have h1 : CM.Bd 2000 p := h1
  have h2 : CM.Bd 2000 q := h2
  refine b_ret (R := Same) (ev_call (ok_Lleast T) hr (p.num * (q.den : Int) - q.num * (p.den : Int), (p.den : Int) * (q.den : Int)) hd (ea_cons (ev_sub (ev_mulB h1.1 (CM.lt_den h2) (by decide) (by decide) (by decide) (ev_p0 (ev_var 0 rfl hx)) (ev_p1 (ev_var 1 rfl hy))) (ev_mulB h2.1 (CM.lt_den h1) (by decide) (by decide) (by decide) (ev_p0 (ev_var 1 rfl hy)) (ev_p1 (ev_var 0 rfl hx)))) (ea_cons (ev_mulB (CM.lt_den h1) (CM.lt_den h2) (by decide) (by decide) (by decide) (ev_p1 (ev_var 0 rfl hx)) (ev_p1 (ev_var 1 rfl hy))) ea_nil))) fun v H1 s1 pv => k v H1 s1 ?_
  rw [CM.q_sub] at pv
  exact pv
/-- times: the second's bottom may be any bottom that stands there -/
theorem ok_Ltimes (T : Tx K mg) : DefOk Pg w K mg base "_law_times" 3 (spF (fun z : Rat × Rat => [isP z.1, isP z.2]) condP fun z => isP (z.1 * z.2)) := by
  refine mkDef T.g_L_times T.k_L_times T.d_L_times scTimesL (fun _ => rfl) (fun _ _ _ _ _ _ us hl => match us, hl with | [_, _], _ => rfl) fun cdv A outer s H vs Q E z hr fit hc k => ?_
  have hd := hc.pos
  obtain ⟨p, q⟩ := z
  obtain ⟨h1, h2, h3⟩ := hc
  obtain ⟨x, y, rfl, hx, hy⟩ := fit2 fit
  have hx : isP p x H := hx
  have hy : isP q y H := hy
  have h1 : CM.Bd 2000 p := h1
  have h2 : CM.Bd 2000 q := h2
  refine b_ret (R := Same) (ev_call (ok_Lleast T) hr (p.num * q.num, (p.den : Int) * (q.den : Int)) hd (ea_cons (ev_mulB h1.1 h2.1 (by decide) (by decide) (by decide) (ev_p0 (ev_var 0 rfl hx)) (ev_p0 (ev_var 1 rfl hy))) (ea_cons (ev_mulB (CM.lt_den h1) (CM.lt_den h2) (by decide) (by decide) (by decide) (ev_p1 (ev_var 0 rfl hx)) (ev_p1 (ev_var 1 rfl hy))) ea_nil))) fun v H1 s1 pv => k v H1 s1 ?_
  rw [CM.q_mul] at pv
  exact pv
abbrev nQuots : List Str := ["_law_pairs", "_law_pair"]
theorem scQuots : FnScope nQuots ["_law_pairs"] (defScope sL_quotients) := ⟨rfl, rfl, rfl, by decide +kernel, rfl, by decide +kernel, by decide +kernel⟩
theorem ok_Lquots (T : Tx K mg) : DefOk Pg w K mg base "_law_quotients" 4 (spF (fun z : List Rat => [lstOf isP z]) (fun z => z.length ≤ 7 ∧ ∀ r ∈ z, CM.Bd 12 r) fun z => tupOf (isQ (cQ K) 12) z) := by
  refine mkDef T.g_L_quotients T.k_L_quotients T.d_L_quotients scQuots (fun _ => rfl) (fun _ _ _ _ _ _ us hl => match us, hl with | [_], _ => rfl) fun cdv A outer s H vs Q E rs hr fit hc k => ?_
  obtain ⟨c1, c2⟩ := hc
  have c1 : rs.length ≤ 7 := c1
  obtain ⟨x, rfl, hx⟩ := fit1 fit
  have hx : lstOf isP rs x H := hx
  refine b_ret (R := Same) (ev_tupleOf T.n_tuple (lc_L 1 (own := [("_law_pair", 1)]) (tt := tYes) (F := isP) (G := isQ (cQ K) 12) (as := rs) (fun _ => true) (fun r => r) moN (fun _ => inferInstance) (by omega) (ev_var 0 rfl hx) (fun _ _ _ _ _ _ K k => tt_yes (f := fun _ => true) (i := 0) rfl k)
    (fun r u H2 hm _ s2 hu => fun s0 H0 C cl fp => (ev_quot (n := 12) (ok_QI T) hr (CM.denpos r) (c2 r hm).1 (CM.lt_den (c2 r hm)) (by decide) (by decide) (ea_cons (ev_p0 (ev_var 1 rfl hu)) (ea_cons (ev_p1 (ev_var 1 rfl hu)) ea_nil))).imp fun v H1 _ p => by rw [CM.q_of] at p; exact p)
    scQuots.nd (fun _ _ _ _ _ => pts_nil) (blkOk_by (N := nQuots) (sc := defScope sL_quotients) (by decide +kernel)) (by decide) (fun _ _ _ _ _ => pg_name (i := 1) scQuots.nd rfl (Or.inl rfl))) (fun _ => inferInstance)) fun v H1 s1 pv => k v H1 s1 ?_
  rw [List.filter_eq_self.mpr (fun _ _ => rfl), show (rs.map fun r => r) = rs from List.map_id rs] at pv
  exact pv
end
end Ly
set_option Elab.async false
set_option linter.all false
set_option maxRecDepth 100000
set_option maxHeartbeats 4000000
/-! What is drawn: shares, lamps. -/
namespace Ly
open PySem PySem.Spec PyProof.Rows L2
section
variable {X : Cx} {σ : SS} {H H' : Hp} {P P' Pa Pb Pc : HF} {D : Ends} {e a b c : Expr} {es : List Expr} {pos p apos : Pos} {pl : Addr} {m : Int}
/-- a draw -/
theorem ev_next (T : Tx X.K X.mg) (hr : Room 1 X.A) (hm : 0 < m) (ha : EV (But pl) X a σ H (isStr pl)) (hb : EV (But pl) X b σ H (isI m)) (hg : Gl X "_law_next" := by rfl) (he : starEach [a, b] X.env = (false, eval a X.env) :: starEach [b] X.env := by rfl) (he2 : starEach [b] X.env = (false, eval b X.env) :: starEach [] X.env := by rfl) (hpl : (backTo pos (starEach [b] X.env)).any (·.1) = false := by rfl) : EV (But pl) X (.Call (.Name "_law_next" p) [a, b] [] pos) σ H (isIp fun i => 0 ≤ i ∧ i < m) :=
  ev_callD (ok_Lnext (Pg := X.prog) (w := X.w) (base := X.base) T) hr (pl, m) hm (ea_cons ha (ea_cons hb ea_nil he2) he) hg (by decide) he hpl
theorem pair_ex {p q : Int → Prop} {v : V} (h : tupOf id [isIp p, isIp q] v H) : ∃ a b, p a ∧ q b ∧ tupOf isI [a, b] v H := by
  obtain ⟨ad, xs, rfl, hx, qx⟩ := h
  have l2 : xs.length = 2 := qx.1
  match xs, l2 with
  | [u1, u2], _ =>
    obtain ⟨a, pa, rfl⟩ : isIp p u1 H := qx.2 0 u1 _ rfl rfl
    obtain ⟨b, pb, rfl⟩ : isIp q u2 H := qx.2 1 u2 _ rfl rfl
    exact ⟨a, b, pa, pb, ad, _, rfl, hx, .cons rfl (.cons rfl .nil)⟩
/-- a pair display -/
theorem ev_pairP {R : Hp → Hp → Prop} [Rel R] {n : Nat} {p q : Int → Prop} (h : EA R X es σ H [isIp p, isIp q]) : EV R X (.Tuple es n pos) σ H (fun v H => ∃ a b, p a ∧ q b ∧ tupOf isI [a, b] v H) :=
  EV.by (pe_tup pa_ra) fun H1 r Q k => h H1 r _ fun vs H2 r2 f => ⟨Nat.le_trans (by rw [f.len]; show 2 ≤ 1000; decide) (by decide), fun ad hp => by
    obtain ⟨u1, u2, rfl, ⟨a, pa, rfl⟩, ⟨b, pb, rfl⟩⟩ := fit2 f
    exact k _ _ (Rel.tr r2 (Rel.sm (smn hp))) ⟨a, b, pa, pb, ad, _, rfl, upd_same, .cons rfl (.cons rfl .nil)⟩⟩
end
/-- what a share may be -/
def okS (z : Int × Int) : Prop := 0 ≤ z.1 ∧ z.1 ≤ z.2 ∧ 1 ≤ z.2 ∧ z.2 ≤ 3600
abbrev isS : HF := exF okS fun z => tupOf isI [z.1, z.2]
section
variable {Pg : Program} {w : World} {K : PySem.W.Frag} {mg : Str → Option Value} {base : Heap}
abbrev nShare : List Str := ["_law_stream_here", "_law_kind", "_law_bottom"]
theorem scShare : FnScope nShare ["_law_stream_here"] (defScope sL_share) := ⟨rfl, rfl, rfl, by decide +kernel, rfl, by decide +kernel, by decide +kernel⟩
theorem ok_Lshare (T : Tx K mg) : DefOk Pg w K mg base "_law_share" 2 (spD (fun pl : Addr => [isStr pl]) (fun _ => True) (fun pl => pl) fun _ => isS) := by
  refine mkDefD T.g_L_share T.k_L_share T.d_L_share scShare (fun _ => rfl) (fun _ _ _ _ _ _ us hl => match us, hl with | [_], _ => rfl) fun cdv A outer s H vs Q E pl hr fit hc k => ?_
  obtain ⟨x, rfl, hx⟩ := fit1 fit
  have hx : isStr pl x H := hx
  refine b_set (R := But pl) 1 (ev_next T hr (by decide) (ev_var 0 rfl hx) ev_int) (fun v H1 s1 pv => ?_) scShare.nd
  obtain ⟨kd, ⟨k0, k1⟩, rfl⟩ := pv
  have hx := Mo.mo (R := But pl) s1 hx
  refine b_when (R := Same) (et_c0 op_le (ev_vv 1 rfl) ev_int) (fun ht H2 s2 => ?_) (fun ht H2 s2 => ?_)
  · have h1 : kd ≤ 1 := of_decide_eq_true ht.symm
    refine b_ret (R := Same) (ev_tupU (F := isI) (as := [kd, 1]) (ea_cons (ev_vv 1 rfl) (ea_cons ev_int ea_nil)) (fun _ => inferInstance)) fun v H3 s3 pv => k v H3 (Rel.tr s1 (Rel.sm (s2.trans s3))) ⟨(kd, 1), ⟨k0, h1, by show (1 : Int) ≤ 1; omega, by show (1 : Int) ≤ 3600; omega⟩, pv⟩
  · have hx := Mo.mo (R := Same) s2 hx
    refine b_set (R := But pl) 2 (P := isIp fun i => 1 ≤ i ∧ i ≤ 3600) (ev_addp (p := (· = 1)) (q := fun i => 0 ≤ i ∧ i < 12) (ev_ip ev_int) (ev_next T hr (by decide) (ev_var 0 rfl hx) ev_int) (fun i j hi hj => (by have hi : i = 1 := hi; have hj : 0 ≤ j ∧ j < 12 := hj; omega))) (fun v H3 s3 pv => ?_) scShare.nd
    have hx := Mo.mo (R := But pl) s3 hx
    have fin : ∀ v H4, But pl H H4 → (isIp fun i => 1 ≤ i ∧ i ≤ 3600) v H4 → isStr pl x H4 → RSs (cxOf CX0 Pg w K mg base nShare "_law_share" (defScope sL_share) (He.ga K "_law_share") cdv A outer s H E).nox [(defBody sL_share).getLast (by decide +kernel)] { nx := fun _ H' => Q .non H', rt := Q } [some x, some (.int kd), some v] H4 := by
      intro v H4 s4 pv hx
      obtain ⟨b, ⟨b0, b1⟩, rfl⟩ := pv
      refine b_ret (R := But pl) (ev_pairP (p := fun i => 0 ≤ i ∧ i ≤ b) (q := (· = b)) (ea_cons (ev_modp (p := fun _ => True) (q := (· = b + 1)) (ev_mulp (p := fun i => 0 ≤ i ∧ i < 60) (q := fun _ => True) (ev_next T hr (by decide) (ev_var 0 rfl hx) ev_int) (ev_ii ev_int trivial) (fun i j hi _ => ⟨(by have hi : 0 ≤ i ∧ i < 60 := hi; omega), trivial⟩)) (ev_ip (ev_add (ev_vv 2 rfl) ev_int)) (fun i j _ hj => ?_)) (ea_cons (ev_ip (ev_vv 2 rfl)) ea_nil))) fun v H5 s5 ⟨a, b', pa, pb, pv⟩ => k v H5 (Rel.tr s4 s5) ⟨(a, b'), ?_, pv⟩
      · have hj : j = b + 1 := hj
        subst hj
        have := Int.emod_lt_of_pos i (show 0 < b + 1 by omega)
        exact ⟨by omega, Int.emod_nonneg _ (by omega), by omega⟩
      · have pb : b' = b := pb
        subst pb
        exact ⟨pa.1, pa.2, b0, b1⟩
    refine b_when (R := Same) (et_eq (ev_vv 1 rfl) ev_int) (fun ht H4 s4 => ?_) (fun ht H4 s4 => ?_)
    · have hx := Mo.mo (R := Same) s4 hx
      refine b_set (R := But pl) 2 (P := isIp fun i => 1 ≤ i ∧ i ≤ 3600) (ev_addp (p := fun i => 1 ≤ i ∧ i ≤ 3541) (q := fun i => 0 ≤ i ∧ i < 60) (ev_addp (p := (· = 1)) (q := fun i => 0 ≤ i ∧ i ≤ 3540) (ev_ip ev_int) (ev_mulp (p := fun i => 0 ≤ i ∧ i < 60) (q := (· = 60)) (ev_next T hr (by decide) (ev_var 0 rfl hx) ev_int) (ev_ip ev_int) (fun i j hi hj => (by have hi : 0 ≤ i ∧ i < 60 := hi; have hj : j = 60 := hj; subst hj; omega))) (fun i j hi hj => (by have hi : i = 1 := hi; have hj : 0 ≤ j ∧ j ≤ 3540 := hj; omega))) (ev_next T hr (by decide) (ev_var 0 rfl hx) ev_int) (fun i j hi hj => (by have hi : 1 ≤ i ∧ i ≤ 3541 := hi; have hj : 0 ≤ j ∧ j < 60 := hj; omega))) (fun v H5 s5 pv => RSs.nil ?_) scShare.nd
      exact fin v H5 (Rel.tr s1 (Rel.tr (Rel.sm s2) (Rel.tr s3 (Rel.tr (Rel.sm s4) s5)))) pv (Mo.mo (R := But pl) s5 hx)
    · exact fin v H4 (Rel.tr s1 (Rel.tr (Rel.sm s2) (Rel.tr s3 (Rel.sm s4)))) (Mo.mo (R := Same) s4 pv) (Mo.mo (R := Same) s4 hx)
end
end Ly
set_option Elab.async false
set_option linter.all false
set_option maxRecDepth 100000
set_option maxHeartbeats 4000000
/-! Shares, lamps. -/
namespace Ly
open PySem PySem.Spec PyProof.Rows L2
section
variable {R : Hp → Hp → Prop} {X : Cx} {σ : SS} {H H' : Hp} {P P' Pa Pb Pc : HF} {D : Ends} [Rel R] {e a b c : Expr} {es : List Expr} {pos p apos : Pos} {x : Str} {rest body els : List Stmt}
/-- what comes next, weakened -/
theorem RSs.nxt {st : List Stmt} {J J' : SS → Hp → Prop} (k : ∀ σ1 H1, J σ1 H1 → J' σ1 H1) (h : RSs X st { D with nx := J } σ H) : RSs X st { D with nx := J' } σ H := fun pins s I => thn (h pins s I) fun f s1 q => by
  cases f with
  | next => exact (show ∃ σ' H', _ ∧ J σ' H' from q).elim fun σ' ⟨H', i, j⟩ => ⟨σ', H', i, k _ _ j⟩
  | brk => exact q
  | cont => exact q
  | ret u => exact q
/-- if c: body, and then on from where both ways meet -/
theorem b_whenJ (J : SS → Hp → Prop) {t : Bool → Prop} (hc : ET R X c σ H t) (h1 : t true → ∀ H1, R H H1 → RSs X body { D with nx := J } σ H1) (h0 : t false → ∀ H1, R H H1 → J σ H1) (hj : ∀ σ1 H1, J σ1 H1 → RSs X rest D σ1 H1) : RSs X (.If c body [] pos :: rest) D σ H :=
  b_when hc (fun ht H1 r => (h1 ht H1 r).nxt hj) fun ht H1 r => hj _ _ (h0 ht H1 r)
end
/-- what shares may be -/
def okQ (q : Rat) : Prop := 0 ≤ q ∧ q ≤ 1 ∧ q.den ≤ 3600
theorem okS_q {z : Int × Int} (h : okS z) : okQ (Rat.divInt z.1 z.2) := by
  obtain ⟨t, b⟩ := z
  obtain ⟨h1, h2, h3, h4⟩ := h
  have h1 : 0 ≤ t := h1
  have h2 : t ≤ b := h2
  have h3 : 1 ≤ b := h3
  have h4 : b ≤ 3600 := h4
  have hb : 0 < b := by omega
  have hg : (0 : Int) < (Int.gcd t b : Int) := by have := CM.gcd_pos (t := t) hb; omega
  have en := CM.divInt_num (t := t) hb
  have ed := CM.divInt_den (t := t) hb
  refine ⟨?_, ?_, ?_⟩
  · show 0 ≤ Rat.divInt t b
    rw [← Rat.num_nonneg, en]
    exact Int.ediv_nonneg h1 (by omega)
  · show Rat.divInt t b ≤ 1
    rw [Rat.le_iff, en, ed]
    have := Int.ediv_le_ediv hg h2
    simpa using this
  · show (Rat.divInt t b).den ≤ 3600
    have : ((Rat.divInt t b).den : Int) ≤ b := by
      rw [ed]
      exact Int.ediv_le_self _ (by omega)
    omega
theorem okS_small {z : Int × Int} (h : okS z) : 0 < z.2 ∧ z.2.natAbs < 2 ^ 410 := by
  obtain ⟨h1, h2, h3, h4⟩ := h
  refine ⟨by omega, Nat.lt_of_lt_of_le (show z.2.natAbs < 2 ^ 12 by omega) (Nat.pow_le_pow_right (by decide) (by decide))⟩
section
variable {Pg : Program} {w : World} {K : PySem.W.Frag} {mg : Str → Option Value} {base : Heap}
abbrev nShares : List Str := ["_law_stream_here", "_law_count", "_law_kind", "_law_found", "_law_k", "_law_share_here"]
theorem scShares : FnScope nShares ["_law_stream_here", "_law_count"] (defScope sL_shares) := ⟨rfl, rfl, rfl, by decide +kernel, rfl, by decide +kernel, by decide +kernel⟩
/-- shares in least terms, n of them -/
abbrev isSh (pl : Addr) (n : Nat) : HF := exF (fun rs : List Rat => rs.length = n ∧ ∀ r ∈ rs, okQ r) (lstB pl isP)
theorem ok_Lshares (T : Tx K mg) : DefOk Pg w K mg base "_law_shares" 3 (spD (fun z : Addr × Nat => [isStr z.1, isN z.2]) (fun z => z.2 ≤ 7) (fun z => z.1) fun z => isSh z.1 z.2) := by
  refine mkDefD T.g_L_shares T.k_L_shares T.d_L_shares scShares (fun _ => rfl) (fun _ _ _ _ _ _ us hl => match us, hl with | [_, _], _ => rfl) fun cdv A outer s H vs Q E z hr fit hc k => ?_
  obtain ⟨pl, n⟩ := z
  have hc : n ≤ 7 := hc
  obtain ⟨x, _, rfl, hx, rfl⟩ := fit2 fit
  have hx : isStr pl x H := hx
  refine b_set (R := But pl) 2 (ev_next T (hr.mono (by decide)) (by decide) (ev_var 0 rfl hx) ev_int) (fun v H1 s1 pv => ?_) scShares.nd
  obtain ⟨kd, ⟨k0, k1⟩, rfl⟩ := pv
  have hx := Mo.mo (R := But pl) s1 hx
  refine b_set (R := Same) 3 (ev_nilF (F := isP)) (fun v H2 s2 pv => ?_) scShares.nd
  obtain ⟨p, xs, rfl, hnew, hp, qx⟩ := pv
  have npl : p ≠ pl := fun e => by
    obtain ⟨kk, hk⟩ := hx.pl
    rw [e, hk] at hnew
    cases hnew
  refine b_forR1 (R := Same) 4 (n := (n : Int)) (ev_vv 1 rfl) (decide_eq_true (by omega)) T.n_range (fun i σ H4 => ∃ kk ss xs rs, σ = [some x, some (.int (n : Int)), some (.int kd), some (.ref p), kk, ss] ∧ H4 p = some (.lst xs) ∧ All2 isP xs rs H4 ∧ rs.length = i ∧ (∀ r ∈ rs, okQ r) ∧ But pl H1 H4)
    (fun H4 s4 => ⟨none, none, xs, [], rfl, s4 _ _ hp, qx.mo (R := Same) s4, rfl, (fun r hr => by cases hr), Rel.sm (s2.trans s4)⟩) (fun i σ H4 hi hW => ?_) (fun σ H4 hW => ?_) scShares.nd PassesOwn.never
  · obtain ⟨kk, ss, xs, rs, rfl, hp4, q4, hl, okr, s4⟩ := hW
    have hx4 := Mo.mo (R := But pl) s4 hx
    have lp4 : atB pl p (.lst xs) (.ref p) H4 := ⟨rfl, npl, hp4⟩
    refine b_set (R := But pl) 5 (ev_callD (ok_Lshare T) (hr.mono (by decide)) pl trivial (ea_cons (ev_var 0 rfl hx4) ea_nil)) (fun v H5 s5 pv => ?_) scShares.nd
    have hx5 := Mo.mo (R := But pl) s5 hx4
    -- the ways meet: a share stands
    refine b_whenJ (R := Same) (fun σ H6 => ∃ v, σ = [some x, some (.int (n : Int)), some (.int kd), some (.ref p), some (.int (i : Int)), some v] ∧ isS v H6 ∧ But pl H4 H6) (et_eq (ev_vv 2 rfl) ev_int) (fun ht H6 s6 => ?_) (fun ht H6 s6 => ⟨v, rfl, Mo.mo (R := Same) s6 pv, Rel.tr s5 (Rel.sm s6)⟩) (fun σ6 H6 h6 => ?_)
    · refine b_set (R := Same) 5 (ev_pairP (p := fun i => 0 ≤ i ∧ i ≤ 1) (q := (· = 1)) (ea_cons (ev_modp (p := fun _ => True) (q := (· = 2)) (ev_intOfP T.n_int (ev_ii (ev_add (ev_vv 4 rfl) (ev_vv 2 rfl)) trivial)) (ev_ip ev_int) (fun i j _ hj => (by have hj : j = 2 := hj; subst hj; omega))) (ea_cons (ev_ip ev_int) ea_nil))) (fun v H7 s7 pv => RSs.nil ?_) scShares.nd
      obtain ⟨a, b, pa, pb, pv⟩ := pv
      have pb : b = 1 := pb
      subst pb
      exact ⟨v, rfl, ⟨(a, 1), ⟨pa.1, pa.2, by show (1 : Int) ≤ 1; omega, by show (1 : Int) ≤ 3600; omega⟩, pv⟩, Rel.tr s5 (Rel.sm (s6.trans s7))⟩
    obtain ⟨v, rfl, pv, s6⟩ := h6
    have hx6 := Mo.mo (R := But pl) s6 hx4
    refine b_whenJ (R := But pl) (fun σ H7 => ∃ v, σ = [some x, some (.int (n : Int)), some (.int kd), some (.ref p), some (.int (i : Int)), some v] ∧ isS v H7 ∧ But pl H4 H7) (t := fun _ => True) (et_w (ew_and (p := (· = decide (V.int kd = V.int 1))) (q := fun _ => True) (et_eq (ev_vv 2 rfl) ev_int) (fun _ => ew_and1 (et_c0p (p := fun _ => True) (q := fun _ => True) op_gt (ev_ipp (ev_next T (hr.mono (by decide)) (by decide) (ev_var 0 rfl hx6) ev_int) fun _ _ => trivial) (ev_ii ev_int trivial) (fun _ _ _ _ => trivial))) (fun _ => trivial) (fun _ _ _ => trivial))) (fun ht H7 s7 => ?_) (fun ht H7 s7 => ⟨v, rfl, Mo.mo (R := But pl) s7 pv, Rel.tr s6 s7⟩) (fun σ7 H7 h7 => ?_)
    · have hx7 := Mo.mo (R := But pl) s7 hx6
      refine b_set (R := But pl) 5 (ev_pairP (p := fun i => 0 ≤ i ∧ i < 2) (q := (· = 1)) (ea_cons (ev_next T (hr.mono (by decide)) (by decide) (ev_var 0 rfl hx7) ev_int) (ea_cons (ev_ip ev_int) ea_nil))) (fun v H8 s8 pv => RSs.nil ?_) scShares.nd
      obtain ⟨a, b, pa, pb, pv⟩ := pv
      have pb : b = 1 := pb
      subst pb
      exact ⟨v, rfl, ⟨(a, 1), ⟨pa.1, by show a ≤ 1; omega, by show (1 : Int) ≤ 1; omega, by show (1 : Int) ≤ 3600; omega⟩, pv⟩, Rel.tr s6 (Rel.tr s7 s8)⟩
    obtain ⟨v, rfl, ⟨z, hz, pv⟩, s7⟩ := h7
    have lp7 := Mo.mo (R := But pl) s7 lp4
    have lx : xs.length = i := by rw [q4.1, hl]
    refine b_app (R := Same) (Pa := atB pl p (.lst xs)) (Pb := isP (Rat.divInt z.1 z.2)) (ev_var 3 rfl lp7) (ev_call (ok_Lleast T) (hr.mono (by decide)) (z.1, z.2) (okS_small hz) (ea_cons (ev_ixT (F := isI) (as := [z.1, z.2]) (z := z.1) (ev_var 5 rfl pv) ev_int) (ea_cons (ev_ixT (F := isI) (as := [z.1, z.2]) (z := z.2) (ev_var 5 rfl pv) ev_int) ea_nil))) (fun o H8 _ po => ⟨p, xs, po.1, po.2.2⟩) (fun o v2 H8 s8 po pv2 => ?_)
    have s48 : But pl H4 H8 := Rel.tr s7 (Rel.sm s8)
    refine ⟨p, xs, po.1, po.2.2, by omega, RSs.nil ⟨_, _, xs ++ [v2], rs ++ [Rat.divInt z.1 z.2], rfl, upd_same, ?_, by rw [List.length_append, hl]; rfl, fun r hr => ?_, Bes.bs (Rel.tr s4 s48) hnew⟩⟩
    · exact All2.mo (R := Nl) (nl_upd po.2.2) ((q4.mo (R := But pl) s48).snoc pv2)
    · rcases List.mem_append.mp hr with h | h
      · exact okr r h
      · rw [List.mem_singleton.mp h]
        exact okS_q hz
  · obtain ⟨kk, ss, xs, rs, rfl, hp4, q4, hl, okr, s4⟩ := hW
    have hv : isSh pl n (.ref p) H4 := ⟨rs, ⟨by rw [hl]; exact Int.toNat_natCast n, okr⟩, p, xs, rfl, npl, hp4, q4⟩
    exact b_ret (R := But pl) (ev_var (P := isSh pl n) 3 rfl hv) fun v H5 s5 pv => k v H5 (Rel.tr s1 (Rel.tr s4 s5)) pv
abbrev nLamp : List Str := ["_law_stream_here", "_law_count", "_law_lamp_here", "_law_k"]
theorem scLamp : FnScope nLamp ["_law_stream_here", "_law_count"] (defScope sL_lamp) := ⟨rfl, rfl, rfl, by decide +kernel, rfl, by decide +kernel, by decide +kernel⟩
def okL (i : Int) : Prop := 1 ≤ i ∧ i ≤ 100
theorem ok_Llamp (T : Tx K mg) : DefOk Pg w K mg base "_law_lamp" 2 (spD (fun z : Addr × Nat => [isStr z.1, isN z.2]) (fun z => z.2 ≤ 7) (fun z => z.1) fun z => exF (fun ls : List Int => ls.length = z.2 ∧ ∀ l ∈ ls, okL l) (tupOf isI)) := by
  refine mkDefD T.g_L_lamp T.k_L_lamp T.d_L_lamp scLamp (fun _ => rfl) (fun _ _ _ _ _ _ us hl => match us, hl with | [_, _], _ => rfl) fun cdv A outer s H vs Q E z hr fit hc k => ?_
  obtain ⟨pl, n⟩ := z
  have hc : n ≤ 7 := hc
  obtain ⟨x, _, rfl, hx, rfl⟩ := fit2 fit
  have hx : isStr pl x H := hx
  refine b_set (R := Same) 2 (ev_nilF (F := isI)) (fun v H2 s2 pv => ?_) scLamp.nd
  obtain ⟨p, xs, rfl, hnew, hp, qx⟩ := pv
  have npl : p ≠ pl := fun e => by
    obtain ⟨kk, hk⟩ := hx.pl
    rw [e, hk] at hnew
    cases hnew
  refine b_forR1 (R := Same) 3 (n := (n : Int)) (ev_vv 1 rfl) (decide_eq_true (by omega)) T.n_range (fun i σ H4 => ∃ kk xs ls, σ = [some x, some (.int (n : Int)), some (.ref p), kk] ∧ H4 p = some (.lst xs) ∧ All2 isI xs ls H4 ∧ ls.length = i ∧ (∀ l ∈ ls, okL l) ∧ But pl H H4)
    (fun H4 s4 => ⟨none, xs, [], rfl, s4 _ _ hp, qx.mo (R := Same) s4, rfl, (fun r hr => by cases hr), Rel.sm (s2.trans s4)⟩) (fun i σ H4 hi hW => ?_) (fun σ H4 hW => ?_) scLamp.nd PassesOwn.never
  · obtain ⟨kk, xs, ls, rfl, hp4, q4, hl, okr, s4⟩ := hW
    have hx4 := Mo.mo (R := But pl) s4 hx
    have lp4 : atB pl p (.lst xs) (.ref p) H4 := ⟨rfl, npl, hp4⟩
    have lx : xs.length = i := by rw [q4.1, hl]
    have nx : ∀ {X : Cx} {a b : Expr}, True := trivial
    refine b_app (R := But pl) (Pa := atB pl p (.lst xs)) (Pb := isIp okL) (ev_var 2 rfl lp4) (ev_ixAny (pl := pl) (F := fun _ : Unit => isIp okL) (as := [(), (), ()]) (ev_lstB (ea_cons (ev_ii ev_int (by show okL 1; exact ⟨by omega, by omega⟩)) (ea_cons (ev_addp (p := (· = 1)) (q := fun i => 0 ≤ i ∧ i < 5) (ev_ip ev_int) (ev_next T hr (by decide) (ev_var 0 rfl hx4) ev_int) (fun i j hi hj => (by have hi : i = 1 := hi; have hj : 0 ≤ j ∧ j < 5 := hj; exact ⟨by omega, by omega⟩))) (ea_cons (ev_addp (p := (· = 1)) (q := fun i => 0 ≤ i ∧ i < 100) (ev_ip ev_int) (ev_modp (p := fun _ => True) (q := (· = 100)) (ev_addp (p := fun _ => True) (q := fun _ => True) (ev_mulp (p := fun i => 0 ≤ i ∧ i < 60) (q := fun _ => True) (ev_next T hr (by decide) (ev_var 0 rfl hx4) ev_int) (ev_ii ev_int trivial) (fun i j hi _ => ⟨(by have hi : 0 ≤ i ∧ i < 60 := hi; omega), trivial⟩)) (ev_ipp (ev_next T hr (by decide) (ev_var 0 rfl hx4) ev_int) fun _ _ => trivial) (fun _ _ _ _ => trivial)) (ev_ip ev_int) (fun i j _ hj => (by have hj : j = 100 := hj; subst hj; omega))) (fun i j hi hj => (by have hi : i = 1 := hi; have hj : 0 ≤ j ∧ j < 100 := hj; exact ⟨by omega, by omega⟩))) ea_nil))) (fun H1 s1 => by
        obtain ⟨kk, hk⟩ := (Mo.mo (R := But pl) s1 hx4).pl
        exact ⟨_, hk⟩) (fun _ => inferInstance)) (ev_next T hr (by decide) (ev_var 0 rfl hx4) ev_int) (fun z _ v H1 h => h)) (fun o H8 _ po => ⟨p, xs, po.1, po.2.2⟩) (fun o v2 H8 s8 po pv2 => ?_)
    obtain ⟨l, ol, rfl⟩ := pv2
    refine ⟨p, xs, po.1, po.2.2, by omega, RSs.nil ⟨_, xs ++ [.int l], ls ++ [l], rfl, upd_same, ?_, by rw [List.length_append, hl]; rfl, fun r hr => ?_, Bes.bs (Rel.tr s4 s8) hnew⟩⟩
    · exact All2.mo (R := Nl) (nl_upd po.2.2) ((q4.mo (R := But pl) s8).snoc rfl)
    · rcases List.mem_append.mp hr with h | h
      · exact okr r h
      · rw [List.mem_singleton.mp h]
        exact ol
  · obtain ⟨kk, xs, ls, rfl, hp4, q4, hl, okr, s4⟩ := hW
    exact b_ret (R := Same) (ev_tupleOf T.n_tuple (ev_var (P := lstOf isI ls) 2 rfl ⟨p, xs, rfl, hp4, q4⟩) (fun _ => inferInstance)) fun v H5 s5 pv => k v H5 (Rel.tr s4 (Rel.sm s5)) ⟨ls, ⟨by rw [hl]; exact Int.toNat_natCast n, okr⟩, pv⟩
end
end Ly
set_option Elab.async false
set_option linter.all false
set_option maxRecDepth 100000
set_option maxHeartbeats 4000000
/-! Bands; a comprehension that draws. -/
namespace Ly
open PySem PySem.Spec PyProof.Rows L2
section
variable {R : Hp → Hp → Prop} {X : Cx} {σ : SS} {H H' : Hp} {P P' Pa Pb Pc : HF} {D : Ends} [Rel R] {e elt iter a b c : Expr} {es : List Expr} {pos p apos : Pos} {x : Str} {rest body els : List Stmt} {scope : Scope}
/-- a walk whose elements draw, no tests -/
theorem lcWR [Bes R] {J : It} {n : Nat} {G : Hp → Prop} {Y : Nat → Hp → V → Hp → Prop} (w : Walk J n G Y) {g : TG} {vs : List Nat} {H1 : Hp} {Q : VK} (F : Nat → HF) (hF : ∀ b, Mo Nl (F b)) (hR : ∀ b, Mo R (F b)) (hn : n ≤ 1000000)
    (hst : ∀ H2 H3 D o, H1 D = none → R H1 H2 → R H2 H3 → H2 D = some o → H3 D = some o)
    (hG : ∀ H2, R H1 H2 → G H2) (Si : Nat → SS → Hp → Prop)
    (hg : ∀ i v H2 H3, i < n → R H1 H2 → Y i H2 v H3 → Same H2 H3 ∧ ∀ K : SS → Hp → Prop, (∀ σ2, wipe σ2 vs = wipe σ vs → Si i σ2 H3 → K σ2 H3) → g v (wipe σ vs) H3 K)
    (he : ∀ i σ2 H2, i < n → R H1 H2 → Si i σ2 H2 → ∀ (s : Shared) (H0 : Hp) (C : Addr) (cl : List (Str × Addr)) (fp : List Addr), EV R (X.blk s H0 scope (compEnvC scope cl C X.env) fp) e σ2 H2 (F i))
    (q : ∀ D H2, H1 D = none → R H1 H2 → lstOf F (List.range n) (.ref D) H2 → Q (.ref D) H2) :
    ∀ D, H1 D = none → ∃ W : Nat → Nat → Hp → Prop, (∃ m, W 0 m (upd H1 D (.lst []))) ∧ ∀ i m H, W i m H →
  (J.stop i H ∧ Q (.ref D) H) ∨ (J.go i H ∧ ∃ Nx : Hp → Prop,
    (∀ H', Nx H' → ∃ m', m' < m ∧ W (i + 1) m' H') ∧ ∀ x H', J.yld i H x H' → g x (wipe σ vs) H' fun σ2 H2 => wipe σ2 vs = wipe σ vs ∧ tYes σ2 H2 fun b H3 =>
    if b = true then REB X scope e σ2 H3 fun y H4 => ∃ acc, H4 D = some (.lst acc) ∧ acc.length < sizeLine ∧ Nx (upd H4 D (.lst (acc ++ [y]))) else Nx H3) := by
  intro D hD
  refine lc_it w (fun i H2 => R H1 H2 ∧ ∃ acc, H2 D = some (.lst acc) ∧ All2 F acc (List.range i) H2) ⟨Bes.bs (Rel.rf _) hD, [], upd_same, All2.nil⟩ (fun i H2 _ ⟨s, _⟩ => hG H2 s) (fun i v H2 H3 hi ⟨s, acc, ha, q2⟩ y => ?_) (fun H2 ⟨s, acc, ha, q2⟩ => q D H2 hD s ⟨D, acc, rfl, ha, q2⟩)
  obtain ⟨s3, hg2⟩ := hg i v H2 H3 hi s y
  refine hg2 _ fun σ2 hw si => ⟨hw, ?_⟩
  show REB X scope e σ2 H3 _
  intro s0 H0 C cl fp
  have s13 : R H1 H3 := Rel.tr s (Rel.sm s3)
  refine he i σ2 H3 hi s13 si s0 H0 C cl fp H3 (Rel.rf _) _ fun y H5 s5 py => ?_
  have a5 : H5 D = some (.lst acc) := hst _ _ _ _ hD s13 s5 (s3 _ _ ha)
  have q5 : All2 F acc (List.range i) H5 := All2.mo (R := R) (h := hR) (Rel.tr (Rel.sm s3) s5) q2
  refine ⟨acc, a5, ?_, Bes.bs (Rel.tr s13 s5) hD, _, upd_same, ?_⟩
  · have := q5.1
    rw [List.length_range] at this
    rw [this]
    exact Nat.lt_of_lt_of_le (Nat.lt_of_lt_of_le hi hn) (by decide)
  · rw [List.range_succ]
    exact All2.mo (R := Nl) (h := hF) (nl_upd a5) (q5.snoc py)
/-- [e for x in l], e draws -/
theorem lt_LD {pl : Addr} (j : Nat) {own : List (Str × Nat)} {ts : List Int} (F : Nat → HF) (hF : ∀ b, Mo Nl (F b)) (hR : ∀ b, Mo (But pl) (F b)) (hn : ts.length ≤ 1000000)
    (ha : EV (But pl) X iter σ H (lstB pl isI ts)) (hpl : ∃ k, H pl = some (.lst [.int k]))
    (he : ∀ (i : Nat) t H2, ts[i]? = some t → But pl H H2 → ∀ (s : Shared) (H0 : Hp) (C : Addr) (cl : List (Str × Addr)) (fp : List Addr), EV (But pl) (X.blk s H0 scope (compEnvC scope cl C X.env) fp) elt ((wipe σ (own.map (·.2))).set j (some (.int t))) H2 (F i))
    (hj : j ∈ own.map (·.2)) {Q : VK} (k : ∀ v H1, But pl H H1 → lstOf F (List.range ts.length) v H1 → Q v H1) :
    tLc (iList X.K (RE X iter)) (gName j) tYes (REB X scope elt) (own.map (·.2)) σ H Q :=
  ha H (Rel.rf _) _ fun v H2 r2 ⟨p, xs, e, np, hp, q2⟩ => ⟨p, e, ⟨xs, SqL.of hp⟩, by
    have hx : xs.length = ts.length := q2.1
    obtain ⟨k2, hk2⟩ := hpl
    obtain ⟨k3, hk3⟩ := r2.2.1 k2 hk2
    have ev : ∀ i v, xs[i]? = some v → ∃ t, ts[i]? = some t ∧ v = V.int t := fun i v hv => by
      obtain ⟨t, h1, h2⟩ := q2.get' hv
      exact ⟨t, h1, h2⟩
    refine lcWR (R := But pl) (vs := own.map (·.2)) walk_list F hF hR (by rw [hx]; exact hn) (fun H3 H4 D' o hD s3 s4 h => s4.1 _ _ h (.inl fun e => by rw [e, hk3] at hD; cases hD)) (fun H3 s => SqL.of (s.1 _ _ hp (.inl np))) (fun i σ2 _ => ∃ t, ts[i]? = some t ∧ σ2 = (wipe σ (own.map (·.2))).set j (some (.int t))) (fun i v H3 H4 hi s y => ?_) (fun i σ2 H3 hi s ⟨t, ht, eq⟩ => ?_) (fun D' H3 _ s z => ?_)
    · obtain ⟨rfl, hv⟩ := y
      obtain ⟨t, h1, rfl⟩ := ev i v hv
      exact ⟨Same.refl _, fun K k => k _ (by rw [wipe_set hj, wipe_wipe]) ⟨t, h1, rfl⟩⟩
    · rw [eq]
      exact he i t H3 ht (Rel.tr r2 s)
    · rw [hx] at z
      exact k _ _ (Rel.tr r2 s) z⟩
theorem ev_lcLD {pl : Addr} (j : Nat) {own : List (Str × Nat)} {y : Str} {py : Pos} {ts : List Int} (F : Nat → HF) (hF : ∀ b, Mo Nl (F b)) (hR : ∀ b, Mo (But pl) (F b)) (hn : ts.length ≤ 1000000)
    (ha : EV (But pl) X iter σ H (lstB pl isI ts)) (hpl : ∃ k, H pl = some (.lst [.int k]))
    (he : ∀ (i : Nat) t H2, ts[i]? = some t → But pl H H2 → ∀ (s : Shared) (H0 : Hp) (C : Addr) (cl : List (Str × Addr)) (fp : List Addr), EV (But pl) (X.blk s H0 scope (compEnvC scope cl C X.env) fp) elt ((wipe σ (own.map (·.2))).set j (some (.int t))) H2 (F i))
    (hN : X.N.Nodup) (ok : BlkOk X.N X.env.scope scope own) (hj : j ∈ own.map (·.2))
    (hg : ∀ (s : Shared) (H0 : Hp) (C : Addr) (cl : List (Str × Addr)) (fp : List Addr), PG (X.blk s H0 scope (compEnvC scope cl C X.env) fp) (.Name y py) (gName j))
    (hc : X.calm = true := by rfl) (hfs : ∀ x, foldedSetIterable iter X.env x = pure x := by intro _; rfl) :
    EV (But pl) X (.ListComp elt [⟨.Name y py, iter, [], 0⟩] scope pos) σ H (lstOf F (List.range ts.length)) :=
  EV.by (pe_lc hc hN (pi_list pe_re) ok hg (fun _ _ _ _ _ => pts_nil) pe_reb hfs) fun H1 r Q q => lt_LD j F hF hR hn (EV.mono r ha) (by
    obtain ⟨k, hk⟩ := hpl
    exact r.2.1 k hk) (fun i t H2 ht r2 => he i t H2 ht (Rel.tr r r2)) hj q
/-- a kind of int at each place: the ints -/
theorem ints_of {n : Nat} {p : Nat → Int → Prop} {v : V} (h : lstOf (fun i => isIp (p i)) (List.range n) v H) : ∃ ms : List Int, ms.length = n ∧ (∀ i m, ms[i]? = some m → p i m) ∧ lstOf isI ms v H := by
  obtain ⟨a, xs, rfl, ha, q⟩ := h
  have hx : xs.length = n := by rw [q.1, List.length_range]
  have each : ∀ i (hi : i < n), ∃ m, p i m ∧ xs[i]? = some (.int m) := fun i hi => by
    have h2 : (List.range n)[i]? = some i := List.getElem?_range hi
    obtain ⟨x, h3, m, pm, rfl⟩ := q.get h2
    exact ⟨m, pm, h3⟩
  clear q
  have main : ∀ k, k ≤ n → ∃ ms : List Int, ms.length = k ∧ ∀ i m, ms[i]? = some m → p i m ∧ xs[i]? = some (.int m) := fun k => by
    induction k with
    | zero => intro _; exact ⟨[], rfl, fun i m h => by simp at h⟩
    | succ k ih =>
      intro hk
      obtain ⟨ms, h1, h2⟩ := ih (by omega)
      obtain ⟨m, pm, hm⟩ := each k (by omega)
      refine ⟨ms ++ [m], by rw [List.length_append, h1]; rfl, fun i m' h => ?_⟩
      by_cases hi : i < ms.length
      · rw [List.getElem?_append_left hi] at h
        exact h2 i m' h
      · rw [List.getElem?_append_right (by omega)] at h
        have : i - ms.length = 0 := by
          have := (List.getElem?_eq_some_iff.mp h).1
          simp at this; omega
        rw [this] at h
        have : i = k := by omega
        subst this
        simp at h
        subst h
        exact ⟨pm, hm⟩
  obtain ⟨ms, h1, h2⟩ := main n (Nat.le_refl n)
  exact ⟨ms, h1, fun i m h => (h2 i m h).1, a, xs, rfl, ha, by rw [hx, h1], fun i x m h3 h4 => by
    have := (h2 i m h4).2
    rw [h3] at this
    exact Option.some.inj this⟩
end
end Ly
set_option Elab.async false
set_option linter.all false
set_option maxRecDepth 100000
set_option maxHeartbeats 4000000
/-! Bands. -/
namespace Ly
open PySem PySem.Spec PyProof.Rows L2
/-- times and places of bands -/
def okT (ts ms : List Int) : Prop := 4 ≤ ts.length ∧ ts.length ≤ 7 ∧ ms.length = ts.length ∧ ts.Pairwise (· < ·) ∧ (∀ t ∈ ts, 0 ≤ t ∧ t ≤ 10) ∧ ∀ (i : Nat) m t, ms[i]? = some m → ts[i]? = some t → m = 1 ∨ (m = 2 ∧ 2 * t * t ≤ 100)
def bandOf (ts ms : List Int) (i : Nat) : I3 := ⟨ms.getD i default, ms.getD i default * ts.getD i default, ms.getD i default * ts.getD i default * ts.getD i default⟩
def bandsOf (z : List Int × List Int) : List I3 := (List.range z.1.length).map (bandOf z.1 z.2)
section
variable {R : Hp → Hp → Prop} {X : Cx} {σ : SS} {H H' : Hp} {P P' Pa Pb Pc : HF} {D : Ends} [Rel R] {e elt iter a b c : Expr} {es : List Expr} {pos p apos : Pos}
theorem ev_ne {u v : V} (ha : EV R X a σ H (isV u)) (hb : EV R X b σ H (isV v)) (hs : scal u v = true := by rfl) (hm : behindInMarks .NotEq b = false := by exact nomark _) : EV R X (.Compare a [.NotEq] [b] pos) σ H (isB (!decide (u = v))) :=
  ev_cmp op_ne ha hb (fun x y H1 r px py Q q => by
    cases px; cases py
    exact ⟨hs, q _ _ (Rel.rf _) rfl⟩) hm
end
theorem small2 {i : Int} (h : -1000000 < i ∧ i < 1000000) : -(2 ^ 64) < i ∧ i < 2 ^ 64 := by omega
section
variable {Pg : Program} {w : World} {K : PySem.W.Frag} {mg : Str → Option Value} {base : Heap}
abbrev nBands : List Str := ["_law_stream_here", "_law_count", "_law_rising", "_law_at", "_law_k", "_law_times_here", "_law_t"]
theorem scBands : FnScope nBands ["_law_stream_here"] (defScope sL_bands) := ⟨rfl, rfl, rfl, by decide +kernel, rfl, by decide +kernel, by decide +kernel⟩
theorem step_bound {c a0 : Int} (hc : 4 ≤ c ∧ c < 8) (ha : 0 ≤ a0 ∧ a0 ≤ 1) (h6 : c = 6 → a0 = 0) (i : Nat) (hi : (i : Int) < c) : a0 + (i : Int) * (1 + (9 - c) / 3) ≤ 10 := by
  have : c = 4 ∨ c = 5 ∨ c = 6 ∨ c = 7 := by omega
  rcases this with e | e | e | e <;> subst e <;> omega
theorem ok_Lbands (T : Tx K mg) : DefOk Pg w K mg base "_law_bands" 2 (spD (fun pl : Addr => [isStr pl]) (fun _ => True) (fun pl => pl) fun _ => exF (fun z : List Int × List Int => okT z.1 z.2) fun z => tupOf isBand (bandsOf z)) := by
  refine mkDefD T.g_L_bands T.k_L_bands T.d_L_bands scBands (fun _ => rfl) (fun _ _ _ _ _ _ us hl => match us, hl with | [_], _ => rfl) fun cdv A outer s H vs Q E pl hr fit hc k => ?_
  obtain ⟨x, rfl, hx⟩ := fit1 fit
  have hx : isStr pl x H := hx
  refine b_set (R := But pl) 1 (ev_addp (p := (· = 4)) (q := fun i => 0 ≤ i ∧ i < 4) (r := fun c => 4 ≤ c ∧ c < 8) (ev_ip ev_int) (ev_next T hr (by decide) (ev_var 0 rfl hx) ev_int) (fun i j hi hj => (by have hi : i = 4 := hi; have hj : 0 ≤ j ∧ j < 4 := hj; omega))) (fun v H1 s1 pv => ?_) scBands.nd
  obtain ⟨c, hc, rfl⟩ := pv
  have hx := Mo.mo (R := But pl) s1 hx
  refine b_set (R := Same) 2 (ev_nilF (F := isI)) (fun v H2 s2 pv => ?_) scBands.nd
  obtain ⟨p, xs, rfl, hnew, hp, qx⟩ := pv
  have npl : p ≠ pl := fun e => by
    obtain ⟨kk, hk⟩ := hx.pl
    rw [e, hk] at hnew
    cases hnew
  have hx2 := Mo.mo (R := Same) s2 hx
  refine b_set (R := But pl) 3 (P := isIp fun a => (0 ≤ a ∧ a ≤ 1) ∧ (c = 6 → a = 0)) (ev_mulp (p := fun i => 0 ≤ i ∧ i < 2) (q := (· = if (!decide (V.int c = V.int 6)) then 1 else 0)) (ev_next T hr (by decide) (ev_var 0 rfl hx2) ev_int) (ev_ip (ev_intOfB T.n_int (ev_ne (ev_vv 1 rfl) ev_int))) (fun i j hi hj => ?_)) (fun v H3 s3 pv => ?_) scBands.nd
  · have hi : 0 ≤ i ∧ i < 2 := hi
    have hj : j = if (!decide (V.int c = V.int 6)) then 1 else 0 := hj
    refine ⟨by omega, ?_⟩
    by_cases h6 : c = 6
    · subst h6
      have : j = 0 := hj
      rw [this, Int.mul_zero]
      omega
    · have e : (!decide (V.int c = V.int 6)) = true := by
        simp [h6]
      rw [e] at hj
      have : j = 1 := hj
      rw [this, Int.mul_one]
      exact ⟨by omega, fun h => absurd h h6⟩
  obtain ⟨a0, ⟨ha0, ha6⟩, rfl⟩ := pv
  have s13 : But pl H1 H3 := Rel.tr (Rel.sm s2) s3
  have hp3 : H3 p = some (.lst xs) := s3.1 _ _ hp (.inl npl)
  refine b_forR1 (R := Same) 4 (n := c) (ev_vv 1 rfl) (decide_eq_true (by omega)) T.n_range (fun i σ H4 => ∃ a kk xs ts, σ = [some x, some (.int c), some (.ref p), some (.int a), kk, none, none] ∧ H4 p = some (.lst xs) ∧ All2 isI xs ts H4 ∧ ts.length = i ∧ ts.Pairwise (· < ·) ∧ (∀ t ∈ ts, 0 ≤ t ∧ t ≤ 10 ∧ t < a) ∧ 0 ≤ a ∧ a ≤ a0 + (i : Int) * (1 + (9 - c) / 3) ∧ But pl H1 H4)
    (fun H4 s4 => ⟨a0, none, xs, [], rfl, s4 _ _ hp3, (qx.mo (R := But pl) s3).mo (R := Same) s4, rfl, List.Pairwise.nil, (fun r hr => by cases hr), ha0.1, by show a0 ≤ a0 + ((0 : Nat) : Int) * _; rw [show ((0 : Nat) : Int) = 0 from rfl, Int.zero_mul]; omega, Rel.tr s13 (Rel.sm s4)⟩) (fun i σ H4 hi hW => ?_) (fun σ H4 hW => ?_) scBands.nd PassesOwn.never
  · obtain ⟨a, kk, xs, ts, rfl, hp4, q4, hl, hpw, hts, h0, hb, s4⟩ := hW
    have hx4 := Mo.mo (R := But pl) s4 hx
    have hbd := step_bound hc ha0 ha6 i hi
    have lx : xs.length = i := by rw [q4.1, hl]
    refine b_app (R := Same) (Pa := atB pl p (.lst xs)) (Pb := isI a) (ev_var 2 rfl ⟨rfl, npl, hp4⟩) (ev_vv 3 rfl) (fun o H8 _ po => ⟨p, xs, po.1, po.2.2⟩) (fun o v2 H8 s8 po pv2 => ?_)
    cases pv2
    refine ⟨p, xs, po.1, po.2.2, by omega, ?_⟩
    have s9 : But pl H1 (upd H8 p (.lst (xs ++ [.int a]))) := Bes.bs (Rel.tr s4 (Rel.sm s8)) hnew
    have q9 : All2 isI (xs ++ [V.int a]) (ts ++ [a]) (upd H8 p (.lst (xs ++ [.int a]))) := All2.mo (R := Nl) (nl_upd po.2.2) ((q4.mo (R := Same) s8).snoc rfl)
    have hp9 : (upd H8 p (.lst (xs ++ [.int a]))) p = some (.lst (xs ++ [.int a])) := upd_same
    generalize upd H8 p (.lst (xs ++ [.int a])) = H9 at s9 q9 hp9
    have hx9 := Mo.mo (R := But pl) s9 hx
    refine b_set (R := But pl) 3 (P := isIp fun b => a + 1 ≤ b ∧ b ≤ a + (1 + (9 - c) / 3)) (ev_addp (p := (· = a + 1)) (q := fun j => 0 ≤ j ∧ j ≤ (9 - c) / 3) (ev_ip (ev_add (ev_vv 3 rfl) ev_int)) (ev_divp (p := fun j => 0 ≤ j ∧ j < 10 - c) (q := (· = 3)) (ev_next T hr (by omega) (ev_var 0 rfl hx9) (ev_sub ev_int (ev_vv 1 rfl))) (ev_ip ev_int) (fun i j hi hj => (by have hi : 0 ≤ i ∧ i < 10 - c := hi; have hj : j = 3 := hj; subst hj; omega))) (fun i j hi hj => (by have hi : i = a + 1 := hi; have hj : 0 ≤ j ∧ j ≤ (9 - c) / 3 := hj; omega))) (fun v H10 s10 pv => RSs.nil ?_) scBands.nd
    obtain ⟨b, hb2, rfl⟩ := pv
    have he : ((i + 1 : Nat) : Int) * (1 + (9 - c) / 3) = (i : Int) * (1 + (9 - c) / 3) + (1 + (9 - c) / 3) := by
      rw [Int.natCast_add, Int.add_mul]
      simp
    refine ⟨b, _, xs ++ [.int a], ts ++ [a], rfl, s10.1 _ _ hp9 (.inl npl), q9.mo (R := But pl) s10, by rw [List.length_append, hl]; rfl, ?_, fun t ht => ?_, by omega, by rw [he]; omega, Rel.tr s9 s10⟩
    · refine List.pairwise_append.mpr ⟨hpw, List.pairwise_singleton .., fun t ht u hu => ?_⟩
      rw [List.mem_singleton.mp hu]
      exact (hts t ht).2.2
    · rcases List.mem_append.mp ht with h | h
      · have := hts t h
        omega
      · rw [List.mem_singleton.mp h]
        omega
  · obtain ⟨a, kk, xs, ts, rfl, hp4, q4, hl, hpw, hts, h0, hb, s4⟩ := hW
    have hl : (ts.length : Int) = c := by rw [hl]; omega
    have hx4 := Mo.mo (R := But pl) s4 hx
    refine b_set (R := But pl) 5 (ev_lcLD (pl := pl) 6 (own := [("_law_t", 6)]) (ts := ts) (fun i => isIp fun m => m = 1 ∨ (m = 2 ∧ ∀ t, ts[i]? = some t → 2 * t * t ≤ 100)) (fun _ => inferInstance) (fun _ => inferInstance) (by omega) (ev_var 2 rfl ⟨p, xs, rfl, npl, hp4, q4⟩) hx4.pl (fun i t H5 ht s5 => fun s0 H0 C cl fp => ?_) scBands.nd (blkOk_by (N := nBands) (sc := defScope sL_bands) (by decide +kernel)) (by decide) (fun _ _ _ _ _ => pg_name (i := 6) scBands.nd rfl (Or.inl rfl))) (fun v H5 s5 pv => ?_) scBands.nd
    · have h10 := hts t (List.mem_of_getElem? ht)
      refine ev_addp (p := (· = 1)) (q := fun j => j = 0 ∨ (j = 1 ∧ 2 * t * t ≤ 100)) (ev_ip ev_int) (ev_mulp (p := fun j => 0 ≤ j ∧ j < 2) (q := (· = if decide (2 * t * t ≤ 100) then 1 else 0)) (ev_next T hr (by decide) (ev_var 0 rfl (Mo.mo (R := But pl) s5 hx4)) ev_int) (ev_ip (ev_intOfB T.n_int (ev_c0 op_le (ev_mulS (small2 (by omega)) (ev_mulS (by omega) ev_int (ev_vv 6 rfl)) (ev_vv 6 rfl)) ev_int))) (fun i j hi hj => ?_)) (fun i j hi hj => ?_)
      · have hi : 0 ≤ i ∧ i < 2 := hi
        have hj : j = if decide (2 * t * t ≤ 100) then 1 else 0 := hj
        refine ⟨by omega, ?_⟩
        by_cases h : 2 * t * t ≤ 100
        · have hj : j = 1 := by rw [hj]; simp [h]
          rw [hj, Int.mul_one]
          have : i = 0 ∨ i = 1 := by omega
          exact this.imp id fun e => ⟨e, h⟩
        · have hj : j = 0 := by rw [hj]; simp [h]
          rw [hj, Int.mul_zero]
          exact .inl rfl
      · have hi : i = 1 := hi
        subst hi
        rcases hj with hj | ⟨hj, h⟩
        · subst hj
          exact .inl rfl
        · subst hj
          refine .inr ⟨rfl, fun u hu => ?_⟩
          rw [ht] at hu
          cases hu
          exact h
    obtain ⟨ms, hm1, hm2, pms⟩ := ints_of pv
    have lt5 : lstB pl isI ts (.ref p) H5 := Mo.mo (R := But pl) s5 ⟨p, xs, rfl, npl, hp4, q4⟩
    have lt5 := lt5.of
    have ht : okT ts ms := by
      refine ⟨by omega, by omega, hm1, hpw, fun t ht => ⟨(hts t ht).1, (hts t ht).2.1⟩, fun i m t h1 h2 => ?_⟩
      exact (hm2 i m h1).imp id fun h => ⟨h.1, h.2 t h2⟩
    refine b_ret (R := Same) (ev_tupleOf T.n_tuple (ev_lcR 4 (own := [("_law_k", 4)]) (n := ts.length) (tt := tYes) (fun _ => true) (bandOf ts ms) isBand moBand (by omega) T.n_range (ev_is (ev_vv 1 rfl) (by rw [hl])) (fun _ _ _ _ K k => tt_yes (f := fun _ => true) (i := 0) rfl k)
      (fun i H6 hi _ s6 => fun s0 H0 C cl fp => by
        have gm : ms[i]? = some (ms.getD i default) := by
          have : i < ms.length := by omega
          rw [List.getD_eq_getElem?_getD, List.getElem?_eq_getElem this]
          rfl
        have gt : ts[i]? = some (ts.getD i default) := by
          rw [List.getD_eq_getElem?_getD, List.getElem?_eq_getElem hi]
          rfl
        have lt6 := Mo.mo (R := Same) s6 lt5
        have lm6 := Mo.mo (R := Same) s6 pms
        have b1 := hts _ (List.mem_of_getElem? gt)
        have b2 : ms.getD i default = 1 ∨ ms.getD i default = 2 := (hm2 i _ gm).imp id And.left
        have b3 : 0 ≤ ms.getD i default * ts.getD i default ∧ ms.getD i default * ts.getD i default ≤ 20 := by
          rcases b2 with e | e <;> rw [e] <;> omega
        exact ev_tupU (F := isI) (as := [_, _, _]) (ea_cons (ev_ixL (ev_var 5 rfl lm6) (ev_vv 4 rfl) (at_nat gm)) (ea_cons (ev_mulS (small2 (by omega)) (ev_ixL (ev_var 5 rfl lm6) (ev_vv 4 rfl) (at_nat gm)) (ev_ixL (ev_var 2 rfl lt6) (ev_vv 4 rfl) (at_nat gt))) (ea_cons (ev_mulS (small2 (by omega)) (ev_mulS (small2 (by omega)) (ev_ixL (ev_var 5 rfl lm6) (ev_vv 4 rfl) (at_nat gm)) (ev_ixL (ev_var 2 rfl lt6) (ev_vv 4 rfl) (at_nat gt))) (ev_ixL (ev_var 2 rfl lt6) (ev_vv 4 rfl) (at_nat gt))) ea_nil))) (fun _ => inferInstance))
      scBands.nd (fun _ _ _ _ _ => pts_nil) (blkOk_by (N := nBands) (sc := defScope sL_bands) (by decide +kernel)) (by decide) (fun _ _ _ _ _ => pg_name (i := 4) scBands.nd rfl (Or.inl rfl))) (fun _ => inferInstance)) fun v H6 s6 pv => k v H6 (Rel.tr s1 (Rel.tr s4 (Rel.tr s5 (Rel.sm s6)))) ⟨(ts, ms), ht, ?_⟩
    rw [kept_all] at pv
    exact pv
end
end Ly
set_option Elab.async false
set_option linter.all false
set_option maxRecDepth 100000
set_option maxHeartbeats 4000000
/-! Patterns. -/
namespace Ly
open PySem PySem.Spec PyProof.Rows L2
section
variable {R : Hp → Hp → Prop} {X : Cx} {σ : SS} {H H' : Hp} {P P' Pa Pb Pc : HF} {D : Ends} [Rel R] {e elt iter a b c : Expr} {es : List Expr} {pos p pos' apos : Pos} {x : Str} {rest body els : List Stmt} {scope : Scope}
theorem lt_RF (j : Nat) {own : List (Str × Nat)} {a : Expr} {n : Nat} (F : Nat → HF) (hF : ∀ b, Mo Nl (F b)) (hn : n ≤ 1000000)
    (ha : EV Same X a σ H (isI (n : Int)))
    (he : ∀ (i : Nat) H2, i < n → Same H H2 → EVB X scope elt ((wipe σ (own.map (·.2))).set j (some (.int (i : Int)))) H2 (F i))
    (hj : j ∈ own.map (·.2)) {Q : VK} (k : ∀ v H1, Same H H1 → lstF H F (List.range n) v H1 → Q v H1) :
    tLc (iRng1 (tCons (RE X a) tNil)) (gName j) tYes (REB X scope elt) (own.map (·.2)) σ H Q :=
  ha H (Rel.rf _) _ fun v H2 r2 pv => by
    cases pv
    refine ⟨(n : Int), rfl, by omega, by omega, ?_⟩
    rw [Int.toNat_natCast]
    have z0 : ∀ i : Nat, (0 : Int) + (i : Int) = (i : Int) := fun i => Int.zero_add _
    refine lcWR (R := Same) (vs := own.map (·.2)) walk_range F hF (fun b => @moS (F b) (hF b)) hn (fun _ _ _ _ _ _ s h => s _ _ h) (fun H3 s => trivial) (fun i σ2 _ => σ2 = (wipe σ (own.map (·.2))).set j (some (.int (i : Int)))) (fun i v H3 H4 hi s y => ?_) (fun i σ2 H3 hi s eq => ?_) (fun D' H3 hD s z => ?_)
    · obtain ⟨rfl, rfl⟩ := y
      refine ⟨Same.refl _, fun K k => k _ (by rw [wipe_set hj, wipe_wipe]) (congrArg (fun z => List.set (wipe σ (own.map (·.2))) j (some (V.int z))) (z0 i))⟩
    · rw [eq]; exact he i H3 hi (r2.trans s)
    · obtain ⟨a, xs, e, h1, h2⟩ := z
      cases e
      exact k _ _ (r2.trans s) ⟨_, xs, rfl, Same.free r2 hD, h1, h2⟩
theorem b_lcRF (i0 : Nat) {yy : Str} {pyy spos : Pos} {rest : List Stmt} (j : Nat) {own : List (Str × Nat)} {y : Str} {py : Pos} {a : Expr} {n : Nat} (F : Nat → HF) (hF : ∀ b, Mo Nl (F b)) (hn : n ≤ 1000000) (hm : X.mg "range" = none)
    (ha : EV Same X a σ H (isI (n : Int)))
    (he : ∀ (i : Nat) H2, i < n → Same H H2 → EVB X scope elt ((wipe σ (own.map (·.2))).set j (some (.int (i : Int)))) H2 (F i))
    (hN : X.N.Nodup) (ok : BlkOk X.N X.env.scope scope own) (hj : j ∈ own.map (·.2))
    (hg : ∀ (s : Shared) (H0 : Hp) (C : Addr) (cl : List (Str × Addr)) (fp : List Addr), PG (X.blk s H0 scope (compEnvC scope cl C X.env) fp) (.Name y py) (gName j)) (k : ∀ v H1, Same H H1 → lstF H F (List.range n) v H1 → RSs X rest D (σ.set i0 (some v)) H1)
    (hsw : swapsWith (.ListComp elt [⟨.Name y py, .Call (.Name "range" p) [a] [] pos', [], 0⟩] scope pos) (some (.Name yy pyy)) spos.line X.env = pure true) (hi0 : X.N[i0]? = some yy := by rfl) (hyl : X.env.scope.names.lookup yy = some .local := by rfl) (hc : X.calm = true := by rfl) (hgr : Gl X "range" := by rfl) (hst : starEach [a] X.env = [(false, eval a X.env)] := by rfl) (hfs : ∀ x, foldedSetIterable (.Call (.Name "range" p) [a] [] pos') X.env x = pure x := by intro _; rfl) :
    RSs X (.Assign [.Name yy pyy] (.ListComp elt [⟨.Name y py, .Call (.Name "range" p) [a] [] pos', [], 0⟩] scope pos) spos :: rest) D σ H :=
  RSs.cons (RS.of (ps_setLc hc hN hi0 hyl hsw (pi_range1 hgr hm (pa_cons pe_re pa_nil hst) hst) ok hg (fun _ _ _ _ _ => pts_nil) pe_reb hfs) (lt_RF j F hF hn ha he hj fun v H1 s p => k v H1 s p))
end
section
variable {Pg : Program} {w : World} {K : PySem.W.Frag} {mg : Str → Option Value} {base : Heap}
abbrev nPattern : List Str := ["_law_stream_here", "_law_count", "_law_i", "_law_j", "_law_kind", "_law_found", "_law_end", "_law_share_here", "_law_k"]
theorem scPattern : FnScope nPattern ["_law_stream_here", "_law_count"] (defScope sL_pattern) := ⟨rfl, rfl, rfl, by decide +kernel, rfl, by decide +kernel, by decide +kernel⟩
theorem isP_bit (b : Bool) : (tupOf isI [(if b = true then (1 : Int) else 0), 1] : HF) = isP (if b = true then 1 else 0) := by
  cases b <;> rfl
theorem okQ_bit (b : Bool) : okQ (if b = true then 1 else 0) := by
  cases b
  · exact ⟨by decide, by decide, by decide⟩
  · exact ⟨by decide, by decide, by decide⟩
theorem ok_Lpattern (T : Tx K mg) : DefOk Pg w K mg base "_law_pattern" 3 (spD (fun z : Addr × Nat => [isStr z.1, isN z.2]) (fun z => 4 ≤ z.2 ∧ z.2 ≤ 7) (fun z => z.1) fun z => isSh z.1 z.2) := by
  refine mkDefD T.g_L_pattern T.k_L_pattern T.d_L_pattern scPattern (fun _ => rfl) (fun _ _ _ _ _ _ us hl => match us, hl with | [_, _], _ => rfl) fun cdv A outer s H vs Q E z hr fit hc k => ?_
  obtain ⟨pl, n⟩ := z
  obtain ⟨c1, c2⟩ := hc
  have c1 : 4 ≤ n := c1
  have c2 : n ≤ 7 := c2
  obtain ⟨x, _, rfl, hx, rfl⟩ := fit2 fit
  have hx : isStr pl x H := hx
  refine b_set (R := But pl) 2 (ev_next T (hr.mono (by decide)) (by omega) (ev_var 0 rfl hx) (ev_sub (ev_vv 1 rfl) ev_int)) (fun v H1 s1 pv => ?_) scPattern.nd
  obtain ⟨i, hi, rfl⟩ := pv
  have hx1 := Mo.mo (R := But pl) s1 hx
  refine b_set (R := But pl) 3 (P := isIp fun j => i < j ∧ j < (n : Int)) (ev_addp (p := (· = i + 1)) (q := fun d => 0 ≤ d ∧ d < (n : Int) - 1 - i) (ev_ip (ev_add (ev_vv 2 rfl) ev_int)) (ev_next T (hr.mono (by decide)) (by omega) (ev_var 0 rfl hx1) (ev_sub (ev_sub (ev_vv 1 rfl) ev_int) (ev_vv 2 rfl))) (fun a d ha hd => (by have ha : a = i + 1 := ha; have hd : 0 ≤ d ∧ d < (n : Int) - 1 - i := hd; omega))) (fun v H2 s2 pv => ?_) scPattern.nd
  obtain ⟨j, hj, rfl⟩ := pv
  have hx2 := Mo.mo (R := But pl) s2 hx1
  refine b_set (R := But pl) 4 (ev_next T (hr.mono (by decide)) (by decide) (ev_var 0 rfl hx2) ev_int) (fun v H3 s3 pv => ?_) scPattern.nd
  obtain ⟨kd, _, rfl⟩ := pv
  have hx3 := Mo.mo (R := But pl) s3 hx2
  have s13 : But pl H H3 := Rel.tr s1 (Rel.tr s2 s3)
  refine b_lcRF 5 8 (own := [("_law_k", 8)]) (n := n) (fun l => isP (if ((decide (i < (l : Int)) && decide ((l : Int) < j)) == decide (kd = 0)) = true then 1 else 0)) (fun _ => inferInstance) (by omega) T.n_range (ev_vv 1 rfl) (fun l H4 hl s4 => fun s0 H0 C cl fp => ?_) scPattern.nd (blkOk_by (N := nPattern) (sc := defScope sL_pattern) (by decide +kernel)) (by decide) (fun _ _ _ _ _ => pg_name (i := 8) scPattern.nd rfl (Or.inl rfl)) (fun v H4 s4 pv => ?_) (by kernel_rfl)
  · have e : ∀ u v w : Bool, (decide (V.bl u = V.bl v)) = (u == v) := fun u v _ => by
      cases u <;> cases v <;> rfl
    refine (ev_tupU (F := isI) (as := [(if ((decide (i < (l : Int)) && decide ((l : Int) < j)) == decide (kd = 0)) = true then (1 : Int) else 0), 1]) (ea_cons (ev_intOfB T.n_int (ev_is (ev_eq (ev_chain op_lt op_lt (ev_vv 2 rfl) (ev_vv 8 rfl) (ev_vv 3 rfl)) (ev_eq (ev_vv 4 rfl) ev_int)) ?_)) (ea_cons ev_int ea_nil)) (fun _ => inferInstance)).imp fun v H1 _ pv => by rw [isP_bit] at pv; exact pv
    rw [e _ _ true]
    have e2 : decide (V.int kd = V.int 0) = decide (kd = 0) := by
      rw [Bool.eq_iff_iff]
      simp
    rw [e2]
  obtain ⟨p, xs, rfl, hnew, hp, qx⟩ := pv
  have hx4 := Mo.mo (R := Same) s4 hx3
  have npl : p ≠ pl := fun e => by
    obtain ⟨kk, hk⟩ := hx3.pl
    rw [e, hk] at hnew
    cases hnew
  -- what stands behind each step
  have lxs : xs.length = n := by rw [qx.1, List.length_range]
  obtain ⟨rs, hrs, qrs, okr⟩ : ∃ rs : List Rat, rs.length = n ∧ All2 isP xs rs H4 ∧ ∀ r ∈ rs, okQ r := by
    refine ⟨(List.range n).map fun l => (if ((decide (i < ((l : Nat) : Int)) && decide ((l : Int) < j)) == decide (kd = 0)) = true then (1 : Rat) else 0), by rw [List.length_map, List.length_range], ⟨by rw [List.length_map, qx.1], fun l u a h1 h2 => ?_⟩, fun r hr => ?_⟩
    · rw [List.getElem?_map] at h2
      obtain ⟨l2, h3, rfl⟩ := Option.map_eq_some_iff.mp h2
      exact qx.2 l u l2 h1 h3
    · obtain ⟨l, _, rfl⟩ := List.mem_map.mp hr
      exact okQ_bit _
  have St : ∀ H5 : Hp, True := fun _ => trivial
  refine b_forL (R := Same) 6 (ev_lstU (F := isI) (as := [i, j]) (ea_cons (ev_vv 2 rfl) (ea_cons (ev_vv 3 rfl) ea_nil)) (fun _ => inferInstance)) (fun v H5 s5 pv => ?_) scPattern.nd PassesOwn.never
  obtain ⟨q, ws, rfl, hq, qw⟩ := pv
  have lws : ws.length = 2 := qw.1
  have nqp : q ≠ p := fun e => by
    have hp5 := s5 _ _ hp
    rw [e, hp5] at hq
    cases hq
    omega
  have nqpl : q ≠ pl := fun e => by
    obtain ⟨kk, hk⟩ := (Mo.mo (R := Same) s5 hx4).pl
    rw [e, hk] at hq
    cases hq
    cases lws
  refine ⟨q, ws, fun l σ H6 => ∃ ee ss xs rs, σ = [some x, some (.int (n : Int)), some (.int i), some (.int j), some (.int kd), some (.ref p), ee, ss, none] ∧ H6 p = some (.lst xs) ∧ All2 isP xs rs H6 ∧ rs.length = n ∧ (∀ r ∈ rs, okQ r) ∧ But pl H3 H6 ∧ H6 q = some (.lst ws), rfl, hq, ⟨none, none, xs, rs, rfl, s5 _ _ hp, qrs.mo (R := Same) s5, hrs, okr, Rel.sm (s4.trans s5), hq⟩, fun l σ1 H6 ⟨_, _, _, _, _, _, _, _, _, _, h⟩ => h, fun l ev σ1 H6 hev hW => ?_, fun σ1 H6 hW => ?_⟩
  · obtain ⟨ee, ss, xs, rs, rfl, hp6, q6, hl6, okr, s6, hq6⟩ := hW
    have hx6 := Mo.mo (R := But pl) s6 hx3
    obtain ⟨t, ht, et⟩ := qw.get' hev
    cases et
    have htb : 0 ≤ t ∧ t < (n : Int) := by
      match l, ht with
      | 0, ht => cases ht; omega
      | 1, ht => cases ht; omega
    obtain ⟨tn, rfl⟩ := Int.eq_ofNat_of_zero_le htb.1
    refine b_set (R := But pl) 7 (ev_callD (ok_Lshare T) (hr.mono (by decide)) pl trivial (ea_cons (ev_var 0 rfl hx6) ea_nil)) (fun v H7 s7 pv => ?_) scPattern.nd
    obtain ⟨z, hz, pv⟩ := pv
    refine b_put (R := Same) (F := Unit) (Pa := isP (Rat.divInt z.1 z.2)) (Pb := atB pl p (.lst xs)) (ev_call (ok_Lleast T) (hr.mono (by decide)) (z.1, z.2) (okS_small hz) (ea_cons (ev_ixT (F := isI) (as := [z.1, z.2]) (z := z.1) (ev_var 7 rfl pv) ev_int) (ea_cons (ev_ixT (F := isI) (as := [z.1, z.2]) (z := z.2) (ev_var 7 rfl pv) ev_int) ea_nil))) (ev_var 5 rfl ⟨rfl, npl, s7.1 _ _ hp6 (.inl npl)⟩) (ev_vv 6 rfl) (fun v o ix H8 s8 pv2 po pi => ?_)
    have s68 : But pl H6 H8 := Rel.tr s7 (Rel.sm s8)
    have lx : xs.length = n := by rw [q6.1, hl6]
    refine ⟨p, xs, _, tn, po.1, pi, po.2.2, ix_nat (by omega), RSs.nil ⟨_, _, xs.set tn v, rs.set tn (Rat.divInt z.1 z.2), rfl, upd_same, ?_, by rw [List.length_set, hl6], fun r hr => ?_, Bes.bs (Rel.tr s6 s68) hnew, ?_⟩⟩
    · exact All2.mo (R := Nl) (nl_upd po.2.2) ((q6.mo (R := But pl) s68).set tn pv2)
    · rcases List.mem_or_eq_of_mem_set hr with h | h
      · exact okr r h
      · rw [h]
        exact okS_q hz
    · rw [upd_ne nqp]
      exact s68.1 _ _ hq6 (.inl nqpl)
  · obtain ⟨ee, ss, xs, rs, rfl, hp6, q6, hl6, okr, s6, hq6⟩ := hW
    have hx6 := Mo.mo (R := But pl) s6 hx3
    have lx : xs.length = n := by rw [q6.1, hl6]
    refine b_whenJ (R := But pl) (fun σ H7 => ∃ xs rs, σ = [some x, some (.int (n : Int)), some (.int i), some (.int j), some (.int kd), some (.ref p), ee, ss, none] ∧ H7 p = some (.lst xs) ∧ All2 isP xs rs H7 ∧ rs.length = n ∧ (∀ r ∈ rs, okQ r) ∧ But pl H3 H7) (t := fun _ => True) (et_eqp (p := fun _ => True) (q := fun _ => True) (ev_ipp (ev_next T (hr.mono (by decide)) (by decide) (ev_var 0 rfl hx6) ev_int) fun _ _ => trivial) (ev_ii ev_int trivial) (fun _ _ _ _ => trivial)) (fun _ H7 s7 => ?_) (fun _ H7 s7 => ⟨xs, rs, rfl, s7.1 _ _ hp6 (.inl npl), q6.mo (R := But pl) s7, hl6, okr, Rel.tr s6 s7⟩) (fun σ7 H7 h7 => ?_)
    · have hx7 := Mo.mo (R := But pl) s7 hx6
      refine b_put (R := But pl) (F := Unit) (Pa := exF okQ isP) (Pb := atB pl p (.lst xs)) (Pc := isIp fun d => 0 ≤ d ∧ d < (n : Int)) (ev_callS (ok_Lleast T) (hr.mono (by decide)) (Ps := [isIp fun a => 1 ≤ a ∧ a ≤ 5, isI 7]) (ea_cons (ev_addp (p := (· = 1)) (q := fun d => 0 ≤ d ∧ d < 5) (ev_ip ev_int) (ev_next T (hr.mono (by decide)) (by decide) (ev_var 0 rfl hx7) ev_int) (fun a d ha hd => (by have ha : a = 1 := ha; have hd : 0 ≤ d ∧ d < 5 := hd; omega))) (ea_cons ev_int ea_nil)) (fun vs H8 r8 fit Q q => ?_)) (ev_var 5 rfl ⟨rfl, npl, s7.1 _ _ hp6 (.inl npl)⟩) (ev_next T (hr.mono (by decide)) (by omega) (ev_var 0 rfl hx7) (ev_vv 1 rfl)) (fun v o ix H8 s8 pv2 po pi => ?_)
      · obtain ⟨u1, u2, rfl, ⟨a, ha, rfl⟩, hu2⟩ := fit2 fit
        have oks : okS (a, 7) := ⟨by show 0 ≤ a; omega, by show a ≤ 7; omega, by show (1 : Int) ≤ 7; omega, by show (7 : Int) ≤ 3600; omega⟩
        exact ⟨(a, 7), ⟨_, _, rfl, rfl, _, _, rfl, hu2, rfl⟩, okS_small oks, fun v H2 s pv => q v H2 (Rel.sm s) ⟨_, okS_q oks, pv⟩⟩
      · obtain ⟨r, okr', pr⟩ := pv2
        obtain ⟨d, hd, rfl⟩ := pi
        obtain ⟨dn, rfl⟩ := Int.eq_ofNat_of_zero_le hd.1
        have s68 : But pl H6 H8 := Rel.tr s7 s8
        refine ⟨p, xs, _, dn, po.1, rfl, po.2.2, ix_nat (by omega), RSs.nil ⟨xs.set dn v, rs.set dn r, rfl, upd_same, ?_, by rw [List.length_set, hl6], fun r hr => ?_, Bes.bs (Rel.tr s6 s68) hnew⟩⟩
        · exact All2.mo (R := Nl) (nl_upd po.2.2) ((q6.mo (R := But pl) s68).set dn pr)
        · rcases List.mem_or_eq_of_mem_set hr with h | h
          · exact okr r h
          · rw [h]
            exact okr'
    obtain ⟨xs, rs, rfl, hp7, q7, hl7, okr, s7⟩ := h7
    have hv : isSh pl n (.ref p) H7 := ⟨rs, ⟨hl7, okr⟩, p, xs, rfl, npl, hp7, q7⟩
    exact b_ret (R := But pl) (ev_var (P := isSh pl n) 5 rfl hv) fun v H5 s5 pv => k v H5 (Rel.tr s13 (Rel.tr s7 s5)) pv
end
end Ly
set_option Elab.async false
set_option linter.all false
set_option maxRecDepth 100000
set_option maxHeartbeats 4000000
/-! Whether shares are a pattern, as the law asks it. -/
namespace CM
def inner (rs : List Rat) (i j : Nat) : List Rat := (rs.drop (i + 1)).take (j - (i + 1))
def outer (rs : List Rat) (i j : Nat) : List Rat := rs.take i ++ rs.drop (j + 1)
def patAt (rs : List Rat) (i j : Nat) (v : Rat) : Bool := decide ((((inner rs i j).filter fun r => !decide (r = v)).length : Int) = 0) && decide ((((outer rs i j).filter fun r => !decide (r = 1 - v)).length : Int) = 0)
def patB (rs : List Rat) : Bool := (List.range rs.length).any fun j => (List.range j).any fun i => patAt rs i j 1 || patAt rs i j 0
end CM
namespace Ly
open PySem PySem.Spec PyProof.Rows L2
def pd (q : Rat) : PyData := .tuple ([q.num, (q.den : Int)].map PyData.int)
section
variable {R : Hp → Hp → Prop} {X : Cx} {σ : SS} {H H' : Hp} {P P' Pa Pb Pc : HF} {D : Ends} [Rel R] {e elt iter a b c : Expr} {es : List Expr} {pos p p2 pos' apos : Pos} {x : Str} {q r : Rat}
theorem dpP {K : PySem.W.Frag} {v : V} (h : isP q v H) : Dp K H v (pd q) := dpT h
theorem eqvP (q r : Rat) : PyData.eqv (pd q) (pd r) = decide (q = r) := by
  unfold pd
  rw [eqvT, Bool.eq_iff_iff]
  simp only [decide_eq_true_eq]
  constructor
  · intro h
    injection h with h1 h2
    injection h2 with h2 h3
    exact Rat.ext h1 (by omega)
  · intro h
    rw [h]
theorem et_neP (hu : X.A.units + 64 < cLine) (ha : EV R X a σ H (isP q)) (hb : EV R X b σ H (isP r)) (hm : behindInMarks .NotEq b = false := by exact nomark _) : ET R X (.Compare a [.NotEq] [b] pos) σ H (· = !decide (q = r)) :=
  et_cmp (p := (· = !decide (q = r))) (op_neD hu) ha hb (fun x y H1 _ pa pb Q k => ⟨_, _, dpP pa, dpP pb, shapedI _, shapedI _, k _ _ (Rel.rf _) ⟨_, by rw [eqvP], rfl⟩⟩) hm
/-! cuts of lists -/
theorem All2.take {α : Type} {F : α → HF} {xs : List V} {as : List α} (q : All2 F xs as H) (n : Nat) : All2 F (xs.take n) (as.take n) H := ⟨by rw [List.length_take, List.length_take, q.1], fun i x a h1 h2 => by
  have hi : i < n := by
    have := (List.getElem?_eq_some_iff.mp h1).1
    rw [List.length_take] at this
    omega
  rw [List.getElem?_take_of_lt hi] at h1 h2
  exact q.2 i x a h1 h2⟩
theorem All2.drop {α : Type} {F : α → HF} {xs : List V} {as : List α} (q : All2 F xs as H) (n : Nat) : All2 F (xs.drop n) (as.drop n) H := ⟨by rw [List.length_drop, List.length_drop, q.1], fun i x a h1 h2 => by
  rw [List.getElem?_drop] at h1 h2
  exact q.2 _ x a h1 h2⟩
theorem All2.app {α : Type} {F : α → HF} {xs ys : List V} {as bs : List α} (q : All2 F xs as H) (q2 : All2 F ys bs H) : All2 F (xs ++ ys) (as ++ bs) H := by
  refine ⟨by rw [List.length_append, List.length_append, q.1, q2.1], fun j u a h1 h2 => ?_⟩
  by_cases hj : j < xs.length
  · rw [List.getElem?_append_left hj] at h1
    rw [List.getElem?_append_left (by rw [← q.1]; exact hj)] at h2
    exact q.2 j u a h1 h2
  · rw [List.getElem?_append_right (by omega)] at h1
    rw [List.getElem?_append_right (by rw [← q.1]; omega), ← q.1] at h2
    exact q2.2 _ u a h1 h2
theorem ev_sl2 {α : Type} {F : α → HF} {as : List α} {lo hi : Expr} {l h : Nat} (ha : EV R X a σ H (lstOf F as)) [Mo R (lstOf F as)] (hF : ∀ a, Mo Same (F a)) (hl : EV R X lo σ H (isI (l : Int))) (hh : EV R X hi σ H (isI (h : Int))) (h1 : l ≤ as.length) (h2 : h ≤ as.length) : EV R X (.Subscript a (.Slice (some lo) (some hi) none p2) pos) σ H (lstOf F ((as.drop l).take (h - l))) :=
  EV.by (pe_slice sl_list pe_re (po_some pe_re) (po_some pe_re)) fun H1 r Q k => ha H1 r _ fun x H2 r2 px => hl H2 (Rel.tr r r2) _ fun y H3 r3 py => ⟨_, py, hh H3 (Rel.tr r (Rel.tr r2 r3)) _ fun z H4 r4 pz => ⟨_, pz, by
    obtain ⟨ad, xs, e, hx, q⟩ := Mo.mo (R := R) (Rel.tr r3 r4) px
    refine ⟨ad, xs, e, SqL.of hx, fun p hp => k _ _ (Rel.tr r2 (Rel.tr r3 (Rel.tr r4 (Rel.sm (smn hp))))) ⟨p, _, rfl, upd_same, ?_⟩⟩
    unfold cutV
    rw [HT.sIx_nat, HT.sIx_nat, q.1, Nat.min_eq_left h1, Nat.min_eq_left h2]
    exact All2.mo (R := Same) (smn hp) ((q.drop l).take _)⟩⟩
theorem ev_slTo {α : Type} {F : α → HF} {as : List α} {hi : Expr} {h : Nat} (ha : EV R X a σ H (lstOf F as)) [Mo R (lstOf F as)] (hF : ∀ a, Mo Same (F a)) (hh : EV R X hi σ H (isI (h : Int))) (h2 : h ≤ as.length) : EV R X (.Subscript a (.Slice none (some hi) none p2) pos) σ H (lstOf F (as.take h)) :=
  EV.by (pe_slice sl_list pe_re po_none (po_some pe_re)) fun H1 r Q k => ha H1 r _ fun x H2 r2 px => hh H2 (Rel.tr r r2) _ fun z H4 r4 pz => ⟨_, pz, by
    obtain ⟨ad, xs, e, hx, q⟩ := Mo.mo (R := R) r4 px
    refine ⟨ad, xs, e, SqL.of hx, fun p hp => k _ _ (Rel.tr r2 (Rel.tr r4 (Rel.sm (smn hp)))) ⟨p, _, rfl, upd_same, ?_⟩⟩
    unfold cutV
    rw [HT.sIx_nat, HT.sIx_none, q.1, Nat.min_eq_left h2, List.drop_zero, Nat.sub_zero]
    exact All2.mo (R := Same) (smn hp) (q.take _)⟩
theorem ev_slFrom {α : Type} {F : α → HF} {as : List α} {lo : Expr} {l : Nat} (ha : EV R X a σ H (lstOf F as)) [Mo R (lstOf F as)] (hF : ∀ a, Mo Same (F a)) (hl : EV R X lo σ H (isI (l : Int))) (h1 : l ≤ as.length) : EV R X (.Subscript a (.Slice (some lo) none none p2) pos) σ H (lstOf F (as.drop l)) :=
  EV.by (pe_slice sl_list pe_re (po_some pe_re) po_none) fun H1 r Q k => ha H1 r _ fun x H2 r2 px => hl H2 (Rel.tr r r2) _ fun y H4 r4 py => ⟨_, py, by
    obtain ⟨ad, xs, e, hx, q⟩ := Mo.mo (R := R) r4 px
    refine ⟨ad, xs, e, SqL.of hx, fun p hp => k _ _ (Rel.tr r2 (Rel.tr r4 (Rel.sm (smn hp)))) ⟨p, _, rfl, upd_same, ?_⟩⟩
    unfold cutV
    rw [HT.sIx_nat, HT.sIx_none, q.1, Nat.min_eq_left h1]
    have e : (xs.drop l).take (as.length - l) = xs.drop l := List.take_of_length_le (by rw [List.length_drop, q.1]; exact Nat.le_refl _)
    rw [e]
    exact All2.mo (R := Same) (smn hp) (q.drop _)⟩
/-- the lists behind one another -/
theorem ev_catL {α : Type} {F : α → HF} {as bs : List α} (ha : EV R X a σ H (lstOf F as)) (hb : EV R X b σ H (lstOf F bs)) [Mo R (lstOf F as)] (hF : ∀ a, Mo Same (F a)) (hz : as.length + bs.length ≤ 1000000) : EV R X (.BinOp a .Add b pos) σ H (lstOf F (as ++ bs)) :=
  ev_op op_cat ha hb fun x y H1 _ ⟨l, xs, e1, h1, q1⟩ ⟨m, ys, e2, h2, q2⟩ Q k => ⟨l, m, xs, ys, e1, e2, h1, h2, Nat.le_trans (by rw [q1.1, q2.1]; exact hz) (by decide), fun p hp => k _ _ (Rel.sm (smn hp)) ⟨p, _, rfl, upd_same, All2.mo (R := Same) (smn hp) (q1.app q2)⟩⟩
end
section
variable {Pg : Program} {w : World} {K : PySem.W.Frag} {mg : Str → Option Value} {base : Heap}
abbrev nIspat : List Str := ["_law_shares_here", "_law_j", "_law_i", "_law_inner", "_law_outer", "_law_value", "_law_other", "_law_one"]
theorem scIspat : FnScope nIspat ["_law_shares_here"] (defScope sL_is_pattern) := ⟨rfl, rfl, rfl, by decide +kernel, rfl, by decide +kernel, by decide +kernel⟩
theorem isP_other (u : Rat) (h : u = 1 ∨ u = 0) : (tupOf isI [1 - u.num, 1] : HF) = isP (1 - u) := by
  rcases h with h | h <;> rw [h]
  · rw [show (1 : Rat) - 1 = 0 by decide +kernel]
    rfl
  · rw [show (1 : Rat) - 0 = 1 by decide +kernel]
    rfl
theorem ok_Lispat (T : Tx K mg) : DefOk Pg w K mg base "_law_is_pattern" 1 (spF (fun z : List Rat => [lstOf isP z]) (fun z => z.length ≤ 7) fun z => isB (CM.patB z)) := by
  refine mkDef T.g_L_is_pattern T.k_L_is_pattern T.d_L_is_pattern scIspat (fun _ => rfl) (fun _ _ _ _ _ _ us hl => match us, hl with | [_], _ => rfl) fun cdv A outer s H vs Q E rs hr fit hc k => ?_
  have hc : rs.length ≤ 7 := hc
  obtain ⟨x, rfl, hx⟩ := fit1 fit
  have hx : lstOf isP rs x H := hx
  refine b_forR1 (R := Same) 1 (ev_lenL T.n_len (ev_var 0 rfl hx)) (decide_eq_true (by omega)) T.n_range (fun j σ H1 => ∃ a b c d e f, σ = [some x, a, b, c, d, e, f, none] ∧ Same H H1 ∧ ∀ j', j' < j → ∀ i, i < j' → CM.patAt rs i j' 1 = false ∧ CM.patAt rs i j' 0 = false) (fun H1 s1 => ⟨none, none, none, none, none, none, rfl, s1, fun j' h => by omega⟩) (fun j σ H1 hj hW => ?_) (fun σ H1 hW => ?_) scIspat.nd PassesOwn.never
  · obtain ⟨_, b, c, d, e, f, rfl, s1, inv⟩ := hW
    have hj : j < rs.length := by omega
    refine b_forR1 (R := Same) 2 (n := (j : Int)) (ev_vv 1 rfl) (decide_eq_true (by omega)) T.n_range (fun i σ H2 => ∃ b c d e f, σ = [some x, some (.int (j : Int)), b, c, d, e, f, none] ∧ Same H1 H2 ∧ ∀ i', i' < i → CM.patAt rs i' j 1 = false ∧ CM.patAt rs i' j 0 = false) (fun H2 s2 => ⟨b, c, d, e, f, rfl, s2, fun i' h => by omega⟩) (fun i σ H2 hi hW => ?_) (fun σ H2 hW => RSs.nil ?_) scIspat.nd PassesOwn.never
    · obtain ⟨_, c, d, e, f, rfl, s2, inv2⟩ := hW
      have hi : i < j := by omega
      have hx2 := Mo.mo (R := Same) (s1.trans s2) hx
      refine b_set (R := Same) 3 (ev_sl2 (l := i + 1) (h := j) (ev_var 0 rfl hx2) (fun _ => inferInstance) (ev_is (ev_add (ev_vv 2 rfl) ev_int) (by congr 1)) (ev_vv 1 rfl) (by omega) (by omega)) (fun vi H3 s3 pvi => ?_) scIspat.nd
      have hx3 := Mo.mo (R := Same) s3 hx2
      refine b_set (R := Same) 4 (ev_catL (ev_slTo (h := i) (ev_var 0 rfl hx3) (fun _ => inferInstance) (ev_vv 2 rfl) (by omega)) (ev_slFrom (l := j + 1) (ev_var 0 rfl hx3) (fun _ => inferInstance) (ev_is (ev_add (ev_vv 1 rfl) ev_int) (by congr 1)) (by omega)) (fun _ => inferInstance) (by rw [List.length_take, List.length_drop]; omega)) (fun vo H4 s4 pvo => ?_) scIspat.nd
      have pvi := Mo.mo (R := Same) s4 pvi
      refine b_forL (R := Same) 5 (ev_lstU (F := isP) (as := [1, 0]) (ea_cons (ev_tupU (F := isI) (as := [1, 1]) (ea_cons ev_int (ea_cons ev_int ea_nil)) (fun _ => inferInstance)) (ea_cons (ev_tupU (F := isI) (as := [0, 1]) (ea_cons ev_int (ea_cons ev_int ea_nil)) (fun _ => inferInstance)) ea_nil)) (fun _ => inferInstance)) (fun v H5 s5 pv => ?_) scIspat.nd PassesOwn.never
      obtain ⟨p, ws, rfl, hp, qw⟩ := pv
      refine ⟨p, ws, fun l σ H6 => ∃ e f, σ = [some x, some (.int (j : Int)), some (.int (i : Int)), some vi, some vo, e, f, none] ∧ Same H5 H6 ∧ ∀ l', l' < l → ∀ u, ([1, 0] : List Rat)[l']? = some u → CM.patAt rs i j u = false, rfl, hp, ⟨_, _, rfl, Same.refl _, fun l' h => by omega⟩, fun l σ1 H6 ⟨_, _, _, h, _⟩ => h _ _ hp, fun l u σ1 H6 hu hW => ?_, fun σ1 H6 hW => RSs.nil ?_⟩
      · obtain ⟨_, f, rfl, s6, inv3⟩ := hW
        obtain ⟨z, hz, pz⟩ := qw.get' hu
        have pz := Mo.mo (R := Same) s6 pz
        have z01 : z = 1 ∨ z = 0 := by
          have := List.mem_of_getElem? hz
          simpa using this
        refine b_set (R := Same) 6 (P := isP (1 - z)) ((ev_tupU (F := isI) (as := [1 - z.num, 1]) (ea_cons (ev_sub ev_int (ev_p0 (ev_var 5 rfl pz))) (ea_cons ev_int ea_nil)) (fun _ => inferInstance)).imp fun v H1 _ pv => by rw [isP_other z z01] at pv; exact pv) (fun vt H7 s7 pvt => ?_) scIspat.nd
        have pvi := Mo.mo (R := Same) (s5.trans (s6.trans s7)) pvi
        have pvo := Mo.mo (R := Same) (s5.trans (s6.trans s7)) pvo
        have pz := Mo.mo (R := Same) s7 pz
        have lin : ((rs.drop (i + 1)).take (j - (i + 1))).length ≤ 1000000 := by rw [List.length_take, List.length_drop]; omega
        have lout : (rs.take i ++ rs.drop (j + 1)).length ≤ 1000000 := by rw [List.length_append, List.length_take, List.length_drop]; omega
        refine b_when (R := Same) (t := (· = CM.patAt rs i j z)) (et_w (ew_and (p := (· = decide ((((CM.inner rs i j).filter fun r => !decide (r = z)).length : Int) = 0))) (q := (· = decide ((((CM.outer rs i j).filter fun r => !decide (r = 1 - z)).length : Int) = 0)))
          (et_is (et_eq (ev_lenL T.n_len (lc_L 7 (own := [("_law_one", 7)]) (tt := RTB _ _ _) (F := isP) (G := isP) (as := CM.inner rs i j) (fun r => !decide (r = z)) (fun r => r) moP (fun _ => inferInstance) lin (ev_var 3 rfl pvi)
            (fun r u H8 _ s8 hu K k => tt_one (b := !decide (r = z)) (fun s0 H0 C cl fp => et_neP hr.units (ev_var 7 rfl hu) (ev_var 5 rfl (Mo.mo (R := Same) s8 pz))) k)
            (fun r u H8 _ _ s8 hu => fun s0 H0 C cl fp => ev_var 7 rfl hu)
            scIspat.nd (fun s H0 C cl fp => pt_rtb s H0 C cl fp) (blkOk_by (N := nIspat) (sc := defScope sL_is_pattern) (by decide +kernel)) (by decide) (fun _ _ _ _ _ => pg_name (i := 7) scIspat.nd rfl (Or.inl rfl)))) ev_int) (by rw [List.length_map, Bool.eq_iff_iff]; simp))
          (fun _ => ew_and1 (et_is (et_eq (ev_lenL T.n_len (lc_L 7 (own := [("_law_one", 7)]) (tt := RTB _ _ _) (F := isP) (G := isP) (as := CM.outer rs i j) (fun r => !decide (r = 1 - z)) (fun r => r) moP (fun _ => inferInstance) lout (ev_var 4 rfl pvo)
            (fun r u H8 _ s8 hu K k => tt_one (b := !decide (r = 1 - z)) (fun s0 H0 C cl fp => et_neP hr.units (ev_var 7 rfl hu) (ev_var 6 rfl (Mo.mo (R := Same) s8 pvt))) k)
            (fun r u H8 _ _ s8 hu => fun s0 H0 C cl fp => ev_var 7 rfl hu)
            scIspat.nd (fun s H0 C cl fp => pt_rtb s H0 C cl fp) (blkOk_by (N := nIspat) (sc := defScope sL_is_pattern) (by decide +kernel)) (by decide) (fun _ _ _ _ _ => pg_name (i := 7) scIspat.nd rfl (Or.inl rfl)))) ev_int) (by rw [List.length_map, Bool.eq_iff_iff]; simp)))
          (fun h => by unfold CM.patAt; rw [← h]; rfl) (fun v h1 h2 => by unfold CM.patAt; rw [← h1, h2]; rfl))) (fun ht H8 s8 => ?_) (fun ht H8 s8 => RSs.nil ?_)
        · refine b_ret (R := Same) ev_bl fun v H9 s9 pv => k v H9 (s1.trans (s2.trans (s3.trans (s4.trans (s5.trans (s6.trans (s7.trans (s8.trans s9)))))))) ?_
          have e : CM.patB rs = true := by
            refine List.any_eq_true.mpr ⟨j, List.mem_range.mpr hj, List.any_eq_true.mpr ⟨i, List.mem_range.mpr hi, ?_⟩⟩
            rcases z01 with h | h
            · rw [← h, ← ht]
              rfl
            · rw [← h, ← ht, Bool.or_true]
          show isB (CM.patB rs) v H9
          rw [e]
          exact pv
        · refine ⟨_, _, rfl, s6.trans (s7.trans s8), fun l' hl' u2 hu2 => ?_⟩
          by_cases h : l' < l
          · exact inv3 l' h u2 hu2
          · have : l' = l := by omega
            subst this
            rw [hz] at hu2
            cases hu2
            exact ht.symm
      · obtain ⟨e, f, rfl, s6, inv3⟩ := hW
        have lw : ws.length = 2 := qw.1
        refine ⟨_, _, _, _, _, rfl, s2.trans (s3.trans (s4.trans (s5.trans s6))), fun i' hi' => ?_⟩
        by_cases h : i' < i
        · exact inv2 i' h
        · have : i' = i := by omega
          subst this
          exact ⟨inv3 0 (by omega) 1 rfl, inv3 1 (by omega) 0 rfl⟩
    · obtain ⟨b, c, d, e, f, rfl, s2, inv2⟩ := hW
      refine ⟨_, _, _, _, _, _, rfl, s1.trans s2, fun j' hj' i hi => ?_⟩
      by_cases h : j' < j
      · exact inv j' h i hi
      · have : j' = j := by omega
        subst this
        exact inv2 i (by omega)
  · obtain ⟨a, b, c, d, e, f, rfl, s1, inv⟩ := hW
    refine b_ret (R := Same) ev_bl fun v H9 s9 pv => k v H9 (s1.trans s9) ?_
    have e : CM.patB rs = false := by
      refine List.any_eq_false.mpr fun j hj => ?_
      have hj := List.mem_range.mp hj
      rw [Bool.not_eq_true]
      refine List.any_eq_false.mpr fun i hi => ?_
      have := inv j (by omega) i (List.mem_range.mp hi)
      rw [this.1, this.2]
      simp
    show isB (CM.patB rs) v H9
    rw [e]
    exact pv
end
end Ly
set_option Elab.async false
set_option linter.all false
set_option maxRecDepth 100000
set_option maxHeartbeats 4000000
/-! The law's own generators and what is seen. -/
namespace CM
/-- a band's j-th part -/
def seenAt (p : Nat → Nat → Rat) (rs : List Rat) (j : Nat) : Nat → Rat
  | 0 => 0
  | k + 1 => seenAt p rs j k + rs.getD k default * p k j
theorem den_add (p q : Rat) : (p + q).den ≤ p.den * q.den := by
  have h := divInt_den (t := p.num * (q.den : Int) + q.num * (p.den : Int)) (b := (p.den : Int) * (q.den : Int)) mulpos
  rw [q_add] at h
  have : ((p + q).den : Int) ≤ (p.den : Int) * (q.den : Int) := by
    rw [h]
    exact Int.ediv_le_self _ (Int.le_of_lt mulpos)
  rw [← Int.natCast_mul] at this
  omega
theorem den_mul (p q : Rat) : (p * q).den ≤ p.den * q.den := by
  have h := divInt_den (t := p.num * q.num) (b := (p.den : Int) * (q.den : Int)) mulpos
  rw [q_mul] at h
  have : ((p * q).den : Int) ≤ (p.den : Int) * (q.den : Int) := by
    rw [h]
    exact Int.ediv_le_self _ (Int.le_of_lt mulpos)
  rw [← Int.natCast_mul] at this
  omega
theorem den_int (z : Int) : ((z : Rat)).den = 1 := rfl
end CM
namespace Ly
open PySem PySem.Spec PyProof.Rows L2
/-- a band under a light -/
def litB (b : I3) (l : Int) : I3 := ⟨b.x * l, b.y * l, b.z * l⟩
def litAll (z : List I3 × List Int) : List I3 := (List.range z.1.length).map fun i => litB (z.1.getD i default) (z.2.getD i default)
/-- a band's parts by number -/
def part (b : I3) (j : Nat) : Int := [b.x, b.y, b.z].getD j default
def partQ (gs : List I3) (k j : Nat) : Rat := ((part (gs.getD k default) j : Int) : Rat)
theorem isP_int (g : Int) : (tupOf isI [g, 1] : HF) = isP (g : Rat) := rfl
section
variable {Pg : Program} {w : World} {K : PySem.W.Frag} {mg : Str → Option Value} {base : Heap}
abbrev nLit : List Str := ["_law_band", "_law_value", "_law_part_here"]
theorem scLit : FnScope nLit ["_law_band", "_law_value"] (defScope sL_lit) := ⟨rfl, rfl, rfl, by decide +kernel, rfl, by decide +kernel, by decide +kernel⟩
theorem ok_Llit (T : Tx K mg) : DefOk Pg w K mg base "_law_lit" 1 (spF (fun z : I3 × Int => [isBand z.1, isI z.2]) (fun z => z.1.ok) fun z => lstOf isI [z.1.x * z.2, z.1.y * z.2, z.1.z * z.2]) := by
  refine mkDef T.g_L_lit T.k_L_lit T.d_L_lit scLit (fun _ => rfl) (fun _ _ _ _ _ _ us hl => match us, hl with | [_, _], _ => rfl) fun cdv A outer s H vs Q E z hr fit hc k => ?_
  obtain ⟨b, l⟩ := z
  obtain ⟨x, _, rfl, hx, rfl⟩ := fit2 fit
  have hx : isBand b x H := hx
  have hc : b.ok := hc
  have sm : ∀ c ∈ [b.x, b.y, b.z], -1000000 < c ∧ c < 1000000 := fun c h => by
    obtain ⟨h1, h2, h3⟩ := hc
    rcases List.mem_cons.mp h with e | h
    · omega
    rcases List.mem_cons.mp h with e | h
    · omega
    have := List.mem_singleton.mp h
    omega
  exact b_ret (R := Same) (lc_T 2 (own := [("_law_part_here", 2)]) (tt := tYes) (F := isI) (G := isI) (as := [b.x, b.y, b.z]) (fun _ => true) (fun c => c * l) moI (fun _ => inferInstance) (by show 3 ≤ 1000000; decide) (ev_var 0 rfl hx) (fun _ _ _ _ _ _ K k => tt_yes (f := fun _ => true) (i := 0) rfl k)
    (fun c u H2 hm _ s2 hu => fun s0 H0 C cl fp => by
      cases hu
      exact ev_mulS (small2 (sm c hm)) (ev_vv 2 rfl) (ev_vv 1 rfl))
    scLit.nd (fun _ _ _ _ _ => pts_nil) (blkOk_by (N := nLit) (sc := defScope sL_lit) (by decide +kernel)) (by decide) (fun _ _ _ _ _ => pg_name (i := 2) scLit.nd rfl (Or.inl rfl))) fun v H1 s1 pv => k v H1 s1 pv
abbrev nGens : List Str := ["_law_bands_here", "_law_lamp_here", "_law_k"]
theorem scGens : FnScope nGens ["_law_bands_here", "_law_lamp_here"] (defScope sL_generators) := ⟨rfl, rfl, rfl, by decide +kernel, rfl, by decide +kernel, by decide +kernel⟩
theorem ok_Lgens (T : Tx K mg) : DefOk Pg w K mg base "_law_generators" 2 (spF (fun z : List I3 × List Int => [tupOf isBand z.1, tupOf isI z.2]) (fun z => z.1.length = z.2.length ∧ z.1.length ≤ 7 ∧ ∀ b ∈ z.1, b.ok) fun z => lstOf isBand (litAll z)) := by
  refine mkDef T.g_L_generators T.k_L_generators T.d_L_generators scGens (fun _ => rfl) (fun _ _ _ _ _ _ us hl => match us, hl with | [_, _], _ => rfl) fun cdv A outer s H vs Q E z hr fit hc k => ?_
  obtain ⟨bs, ls⟩ := z
  obtain ⟨c1, c2, c3⟩ := hc
  have c1 : bs.length = ls.length := c1
  have c2 : bs.length ≤ 7 := c2
  have c3 : ∀ b ∈ bs, b.ok := c3
  obtain ⟨x, y, rfl, hx, hy⟩ := fit2 fit
  have hx : tupOf isBand bs x H := hx
  have hy : tupOf isI ls y H := hy
  refine b_ret (R := Same) (ev_lcR 2 (own := [("_law_k", 2)]) (n := bs.length) (tt := tYes) (fun _ => true) (fun i => litB (bs.getD i default) (ls.getD i default)) isBand moBand (by omega) T.n_range (ev_lenT T.n_len (ev_var 0 rfl hx)) (fun _ _ _ _ K k => tt_yes (f := fun _ => true) (i := 0) rfl k)
    (fun i H2 hi _ s2 => fun s0 H0 C cl fp => by
      have gb : bs[i]? = some (bs.getD i default) := by
        rw [List.getD_eq_getElem?_getD, List.getElem?_eq_getElem hi]
        rfl
      have gl : ls[i]? = some (ls.getD i default) := by
        have : i < ls.length := by omega
        rw [List.getD_eq_getElem?_getD, List.getElem?_eq_getElem this]
        rfl
      exact ev_tupleOf T.n_tuple (ev_call (ok_Llit T) hr (bs.getD i default, ls.getD i default) (c3 _ (List.mem_of_getElem? gb)) (ea_cons (ev_ixT (ev_var 0 rfl (Mo.mo (R := Same) s2 hx)) (ev_vv 2 rfl) (at_nat gb)) (ea_cons (ev_ixT (ev_var 1 rfl (Mo.mo (R := Same) s2 hy)) (ev_vv 2 rfl) (at_nat gl)) ea_nil))) (fun _ => inferInstance))
    scGens.nd (fun _ _ _ _ _ => pts_nil) (blkOk_by (N := nGens) (sc := defScope sL_generators) (by decide +kernel)) (by decide) (fun _ _ _ _ _ => pg_name (i := 2) scGens.nd rfl (Or.inl rfl))) fun v H1 s1 pv => k v H1 s1 ?_
  rw [kept_all] at pv
  exact pv
/-- what seen takes -/
def condN (z : List I3 × List Rat) : Prop := z.1.length = z.2.length ∧ z.2.length ≤ 7 ∧ (∀ r ∈ z.2, CM.Bd 57 r) ∧ ∀ g ∈ z.1, ∀ j, (part g j).natAbs < 2 ^ 20
abbrev nSeen : List Str := ["_law_generators_here", "_law_shares_here", "_law_found", "_law_k", "_law_j"]
theorem scSeen : FnScope nSeen ["_law_generators_here", "_law_shares_here"] (defScope sL_seen) := ⟨rfl, rfl, rfl, by decide +kernel, rfl, by decide +kernel, by decide +kernel⟩
def seenL (z : List I3 × List Rat) (k : Nat) : List Rat := (List.range 3).map fun j => CM.seenAt (partQ z.1) z.2 j k
theorem seen_sz {gs : List I3} {rs : List Rat} (hc : condN (gs, rs)) (j : Nat) : ∀ k, k ≤ rs.length → CM.Bd (1 + 78 * k) (CM.seenAt (partQ gs) rs j k) ∧ (CM.seenAt (partQ gs) rs j k).den ≤ 2 ^ (57 * k)
  | 0, _ => ⟨CM.bd_zero, by show (0 : Rat).den ≤ 1; decide⟩
  | k + 1, hk => by
    obtain ⟨c1, c2, c3, c4⟩ := hc
    obtain ⟨h1, h2⟩ := seen_sz (gs := gs) (rs := rs) ⟨c1, c2, c3, c4⟩ j k (by omega)
    have c1 : gs.length = rs.length := c1
    have hr : rs.getD k default ∈ rs := by
      have e : rs[k]? = some (rs.getD k default) := by
        rw [List.getD_eq_getElem?_getD, List.getElem?_eq_getElem (show k < rs.length by omega)]
        rfl
      exact List.mem_of_getElem? e
    have hg : gs.getD k default ∈ gs := by
      have e : gs[k]? = some (gs.getD k default) := by
        rw [List.getD_eq_getElem?_getD, List.getElem?_eq_getElem (show k < gs.length by omega)]
        rfl
      exact List.mem_of_getElem? e
    have b1 := c3 _ hr
    have b2 : CM.Bd 20 (partQ gs k j) := CM.bd_int (c4 _ hg j) (by decide)
    have b3 := CM.bd_mul b1 b2
    refine ⟨(CM.bd_add h1 b3).mono (by omega), ?_⟩
    show (_ + _ : Rat).den ≤ _
    refine Nat.le_trans (CM.den_add _ _) ?_
    have d1 : (rs.getD k default * partQ gs k j).den ≤ 2 ^ 57 := by
      refine Nat.le_trans (CM.den_mul _ _) ?_
      rw [show (partQ gs k j).den = 1 from CM.den_int _, Nat.mul_one]
      exact Nat.le_of_lt b1.2
    rw [show 57 * (k + 1) = 57 * k + 57 by omega, Nat.pow_add]
    exact Nat.mul_le_mul h2 d1
theorem ok_Lseen (T : Tx K mg) : DefOk Pg w K mg base "_law_seen" 4 (spF (fun z : List I3 × List Rat => [lstOf isBand z.1, lstOf isP z.2]) condN fun z => lstOf isP (seenL z z.1.length)) := by
  refine mkDef T.g_L_seen T.k_L_seen T.d_L_seen scSeen (fun _ => rfl) (fun _ _ _ _ _ _ us hl => match us, hl with | [_, _], _ => rfl) fun cdv A outer s H vs Q E z hr fit hc k => ?_
  obtain ⟨gs, rs⟩ := z
  have hc0 := hc
  obtain ⟨c1, c2, c3, c4⟩ := hc
  have c1 : gs.length = rs.length := c1
  have c2 : rs.length ≤ 7 := c2
  obtain ⟨x, y, rfl, hx, hy⟩ := fit2 fit
  have hx : lstOf isBand gs x H := hx
  have hy : lstOf isP rs y H := hy
  have t01 : ∀ {σ : SS} {H : Hp} {p1 p2 p3 : Pos} {n j1 j2 : Nat} {X : Cx}, EV Same X (.Tuple [.Constant (.int 0) j1 p1, .Constant (.int 1) j2 p2] n p3) σ H (isP 0) := fun {σ H p1 p2 p3 n j1 j2 X} => ev_tupU (F := isI) (as := [0, 1]) (ea_cons ev_int (ea_cons ev_int ea_nil)) (fun _ => inferInstance)
  refine b_set (R := Same) 2 (ev_lstU (F := isP) (as := [0, 0, 0]) (ea_cons t01 (ea_cons t01 (ea_cons t01 ea_nil))) (fun _ => inferInstance)) (fun v H1 s1 pv => ?_) scSeen.nd
  have hx1 := Mo.mo (R := Same) s1 hx
  refine b_forR1 (R := Same) 3 (ev_lenL T.n_len (ev_var 0 rfl hx1)) (decide_eq_true (by omega)) T.n_range (fun i σ H2 => ∃ v a, σ = [some x, some y, some v, a, none] ∧ lstOf isP (seenL (gs, rs) i) v H2 ∧ Same H H2) (fun H2 s2 => ⟨v, none, rfl, Mo.mo (R := Same) s2 pv, s1.trans s2⟩) (fun i σ H2 hi hW => ?_) (fun σ H2 hW => ?_) scSeen.nd PassesOwn.never
  · obtain ⟨v, a, rfl, pv, s2⟩ := hW
    have hi : i < gs.length := by omega
    have hx2 := Mo.mo (R := Same) s2 hx
    have hy2 := Mo.mo (R := Same) s2 hy
    have gg : gs[i]? = some (gs.getD i default) := by
      rw [List.getD_eq_getElem?_getD, List.getElem?_eq_getElem hi]
      rfl
    have gr : rs[i]? = some (rs.getD i default) := by
      rw [List.getD_eq_getElem?_getD, List.getElem?_eq_getElem (show i < rs.length by omega)]
      rfl
    have b1 := c3 _ (List.mem_of_getElem? gr)
    refine b_set (R := Same) 2 (P := lstOf isP (seenL (gs, rs) (i + 1))) ((ev_lcR 4 (own := [("_law_j", 4)]) (n := 3) (tt := tYes) (fun _ => true) (fun j => CM.seenAt (partQ gs) rs j (i + 1)) isP moP (by decide) T.n_range ev_int (fun _ _ _ _ K k => tt_yes (f := fun _ => true) (i := 0) rfl k)
      (fun j H3 hj _ s3 => fun s0 H0 C cl fp => by
        obtain ⟨z1, z2⟩ := seen_sz hc0 j i (by omega)
        have b2 : CM.Bd 20 (partQ gs i j) := CM.bd_int (c4 _ (List.mem_of_getElem? gg) j) (by decide)
        have b3 := CM.bd_mul b1 b2
        have d1 : (rs.getD i default * partQ gs i j).den ≤ 2 ^ 57 := by
          refine Nat.le_trans (CM.den_mul _ _) ?_
          rw [show (partQ gs i j).den = 1 from CM.den_int _, Nat.mul_one]
          exact Nat.le_of_lt b1.2
        have cs : condP (CM.seenAt (partQ gs) rs j i, rs.getD i default * partQ gs i j) := by
          refine ⟨z1.mono (by omega), b3.mono (by omega), ?_⟩
          refine Nat.lt_of_le_of_lt (Nat.mul_le_mul z2 d1) ?_
          rw [← Nat.pow_add]
          exact Nat.pow_lt_pow_right (by decide) (by omega)
        have ct : condP (rs.getD i default, partQ gs i j) := by
          refine ⟨b1.mono (by omega), b2.mono (by omega), ?_⟩
          show (rs.getD i default).den * (partQ gs i j).den < _
          rw [show (partQ gs i j).den = 1 from CM.den_int _, Nat.mul_one]
          exact Nat.lt_of_lt_of_le b1.2 (Nat.pow_le_pow_right (by decide) (by decide))
        have gs3 : (seenL (gs, rs) i)[j]? = some (CM.seenAt (partQ gs) rs j i) := by
          unfold seenL
          rw [List.getElem?_map, List.getElem?_range hj]
          rfl
        have gp : [(gs.getD i default).x, (gs.getD i default).y, (gs.getD i default).z][j]? = some (part (gs.getD i default) j) := by
          match j, hj with
          | 0, _ => rfl
          | 1, _ => rfl
          | 2, _ => rfl
        have hx3 := Mo.mo (R := Same) s3 hx2
        have hy3 := Mo.mo (R := Same) s3 hy2
        have pv3 := Mo.mo (R := Same) s3 pv
        exact ev_call (ok_Lsum T) hr _ cs (ea_cons (ev_ixL (ev_var 2 rfl pv3) (ev_vv 4 rfl) (at_nat gs3)) (ea_cons (ev_call (ok_Ltimes T) hr _ ct (ea_cons (ev_ixL (ev_var 1 rfl hy3) (ev_vv 3 rfl) (at_nat gr)) (ea_cons (ev_tupU (F := isI) (as := [part (gs.getD i default) j, 1]) (ea_cons (ev_ixT (F := isI) (as := [(gs.getD i default).x, (gs.getD i default).y, (gs.getD i default).z]) (ev_ixL (F := isBand) (as := gs) (z := gs.getD i default) (ev_var 0 rfl hx3) (ev_vv 3 rfl) (at_nat gg)) (ev_vv 4 rfl) (at_nat gp)) (ea_cons ev_int ea_nil)) (fun _ => inferInstance)) ea_nil))) ea_nil)))
      scSeen.nd (fun _ _ _ _ _ => pts_nil) (blkOk_by (N := nSeen) (sc := defScope sL_seen) (by decide +kernel)) (by decide) (fun _ _ _ _ _ => pg_name (i := 4) scSeen.nd rfl (Or.inl rfl))).imp fun v H1 _ p => by rw [kept_all] at p; exact p) (fun v2 H3 s3 pv => RSs.nil ⟨v2, _, rfl, pv, s2.trans s3⟩) scSeen.nd
  · obtain ⟨v, a, rfl, pv, s2⟩ := hW
    exact b_ret (R := Same) (ev_var 2 rfl pv) fun u H3 s3 pu => k u H3 (s2.trans s3) pu
end
end Ly
set_option Elab.async false
set_option linter.all false
set_option maxRecDepth 100000
set_option maxHeartbeats 4000000
/-! Whether what is told is right, as the law asks it. -/
namespace Ly
open PySem PySem.Spec PyProof.Rows L2
def gapAt (rs ts : List Rat) (k : Nat) : Int := (ts.getD k default - rs.getD k default).num
def chgd (rs ts : List Rat) : List Nat := (List.range rs.length).filter fun k => !decide (gapAt rs ts k = 0)
abbrev RZt : Type := (List I3 × List Rat) × Nat × List Rat
structure CondR (z : RZt) : Prop where
  len : z.2.2.length = z.1.2.length
  n1 : condN z.1
  n2 : condN (z.1.1, z.2.2)
  refl : Refl z.2.2
  four : (chgd z.1.2 z.2.2).length = 4
  alt : ∀ i, i < 3 → (decide (0 < gapAt z.1.2 z.2.2 ((chgd z.1.2 z.2.2).getD i 0)) == decide (0 < gapAt z.1.2 z.2.2 ((chgd z.1.2 z.2.2).getD (i + 1) 0))) = false
  edge : ∃ k ∈ chgd z.1.2 z.2.2, z.2.2.getD k default = 0 ∨ z.2.2.getD k default = 1
  seen : seenL (z.1.1, z.2.2) z.1.1.length = seenL z.1 z.1.1.length
section
variable {R : Hp → Hp → Prop} {X : Cx} {σ : SS} {H H' : Hp} {P P' Pa Pb Pc : HF} {D : Ends} [Rel R] {e elt iter a b c : Expr} {es : List Expr} {pos p p2 pos' apos : Pos} {x : Str} {q r : Rat}
theorem layP : ∀ qs : List Rat, PyData.canLayAll0 (qs.map pd) = true
  | [] => rfl
  | q :: qs => by
    rw [List.map_cons, PyData.canLayAll0, layP qs]
    have h := layI [q.num, (q.den : Int)]
    unfold pd
    simp only [PyData.canLay0]
    rw [h]
    rfl
theorem depP : ∀ qs : List Rat, PyData.depthAll (qs.map pd) ≤ 2
  | [] => by simp [PyData.depthAll]
  | q :: qs => by
    have h := depP qs
    have h2 := depI [q.num, (q.den : Int)]
    unfold pd at *
    simp only [List.map_cons, PyData.depthAll, PyData.depth] at *
    omega
theorem shapedP (qs : List Rat) : SeqAt.shaped (.list (qs.map pd)) = true := by
  have h := depP qs
  have h2 : PyData.depth (.list (qs.map pd)) ≤ 64 := by
    simp only [PyData.depth]
    omega
  show (PyData.canLay0 (.list (qs.map pd)) && decide (PyData.depth (.list (qs.map pd)) ≤ 64)) = true
  rw [Bool.and_eq_true]
  exact ⟨by simp only [PyData.canLay0]; exact layP qs, decide_eq_true h2⟩
theorem eqvPs : ∀ qs : List Rat, PyData.eqvAll (qs.map pd) (qs.map pd) = true
  | [] => by simp [PyData.eqvAll]
  | q :: qs => by
    rw [List.map_cons, PyData.eqvAll, eqvPs qs, eqvP]
    simp
theorem dpPs {K : PySem.W.Frag} {H : Hp} : ∀ {xs : List V} {f : List Rat}, All2 isP xs f H → DpAll K H xs (f.map pd)
  | [], [], _ => .nil
  | [], _ :: _, h => by cases h.1
  | _ :: _, [], h => by cases h.1
  | x :: xs, b :: f, h => .cons (dpP (h.2 0 x b rfl rfl)) (dpPs ⟨by simpa using h.1, fun i y c h1 h2 => h.2 (i + 1) y c (by simpa using h1) (by simpa using h2)⟩)
theorem dpL {K : PySem.W.Frag} {x : V} {f : List Rat} (h : lstOf isP f x H) : Dp K H x (.list (f.map pd)) := by
  obtain ⟨a, xs, rfl, ha, q⟩ := h
  exact .lst (SqL.of ha) (dpPs q)
/-- q in a list of pairs -/
theorem et_inP {qs : List Rat} (hu : X.A.units + 65 < cLine) (ha : EV R X a σ H (isP q)) (hb : EV R X b σ H (lstOf isP qs)) (hm : behindInMarks .In b = false := by first | exact nomark _ | rfl) : ET R X (.Compare a [.In] [b] pos) σ H (· = qs.any fun z => decide (z = q)) :=
  et_cmp (p := (· = qs.any fun z => decide (z = q))) (op_inD hu) ha hb (fun x y H1 _ pa pb Q k => ⟨_, _, dpP pa, dpL pb, shapedI _, shapedP _, k _ _ (Rel.rf _) ⟨_, by
    rw [List.any_map]
    congr 1
    funext z
    exact eqvP z q, rfl⟩⟩) hm
end
section
variable {Pg : Program} {w : World} {K : PySem.W.Frag} {mg : Str → Option Value} {base : Heap}
abbrev nRight : List Str := ["_law_generators_here", "_law_shares_here", "_law_told", "_law_values", "_law_gaps", "_law_changed", "_law_value", "_law_k", "_law_n"]
theorem scRight : FnScope nRight ["_law_generators_here", "_law_shares_here", "_law_told"] (defScope sL_right) := ⟨rfl, rfl, rfl, by decide +kernel, rfl, by decide +kernel, by decide +kernel⟩
theorem getD_at {α : Type} [Inhabited α] {as : List α} {i : Nat} (h : i < as.length) : as[i]? = some (as.getD i default) := by
  rw [List.getD_eq_getElem?_getD, List.getElem?_eq_getElem h]
  rfl
theorem moNat (b : Nat) : Mo Nl (isN b) := inferInstance
theorem ok_Lright (T : Tx K mg) : DefOk Pg w K mg base "_law_right" 5 (spF (fun z : RZt => [lstOf isBand z.1.1, lstOf isP z.1.2, tupOf (isQ (cQ K) z.2.1) z.2.2]) CondR fun z => isB true) := by
  refine mkDef T.g_L_right T.k_L_right T.d_L_right scRight (fun _ => rfl) (fun _ _ _ _ _ _ us hl => match us, hl with | [_, _, _], _ => rfl) fun cdv A outer s H vs Q E z hr fit hc k => ?_
  obtain ⟨⟨gs, rs⟩, m, ts⟩ := z
  obtain ⟨c1, c2, c3, c4, c5, c6, c7, c8⟩ := hc
  have c1 : ts.length = rs.length := c1
  have hlen : rs.length ≤ 7 := c2.2.1
  have c4 : Refl ts := c4
  have c5 : (chgd rs ts).length = 4 := c5
  have c6 : ∀ i, i < 3 → (decide (0 < gapAt rs ts ((chgd rs ts).getD i 0)) == decide (0 < gapAt rs ts ((chgd rs ts).getD (i + 1) 0))) = false := c6
  have c7 : ∃ k ∈ chgd rs ts, ts.getD k default = 0 ∨ ts.getD k default = 1 := c7
  have c8 : seenL (gs, ts) gs.length = seenL (gs, rs) gs.length := c8
  obtain ⟨x, y, z, rfl, hx, hy, hz⟩ := fit3 fit
  have hx : lstOf isBand gs x H := hx
  have hy : lstOf isP rs y H := hy
  have hz : tupOf (isQ (cQ K) m) ts z H := hz
  refine b_when (R := Same) (et_or2 (et_nt (et_vt (ev_isTup T (ev_var 2 rfl hz)) rfl)) (et_is (et_ne (ev_lenT T.n_len (ev_var 2 rfl hz)) (ev_lenL T.n_len (ev_var 1 rfl hy))) (by rw [c1]; simp))) (fun ht => by cases ht) (fun _ H1 s1 => ?_)
  have hz1 := Mo.mo (R := Same) s1 hz
  refine b_set (R := Same) 3 (P := lstOf isP ts) ((lc_T 6 (own := [("_law_value", 6)]) (tt := tYes) (F := isQ (cQ K) m) (G := isP) (as := ts) (fun _ => true) (fun r => r) moP (fun _ => inferInstance) (by omega) (ev_var 2 rfl hz1) (fun _ _ _ _ _ _ K k => tt_yes (f := fun _ => true) (i := 0) rfl k)
    (fun r u H2 hm _ s2 hu => fun s0 H0 C cl fp => ev_tupU (F := isI) (as := [r.num, (r.den : Int)]) (ea_cons (ev_top T.c_Quotient T.a_Quotient_top (ev_var 6 rfl hu)) (ea_cons (ev_bot T.c_Quotient T.a_Quotient_bottom (ev_var 6 rfl hu)) ea_nil)) (fun _ => inferInstance))
    scRight.nd (fun _ _ _ _ _ => pts_nil) (blkOk_by (N := nRight) (sc := defScope sL_right) (by decide +kernel)) (by decide) (fun _ _ _ _ _ => pg_name (i := 6) scRight.nd rfl (Or.inl rfl))).imp fun v H1 _ p => by
      rw [List.filter_eq_self.mpr (fun _ _ => rfl), show (ts.map fun r => r) = ts from List.map_id ts] at p
      exact p) (fun vv H2 s2 pvv => ?_) scRight.nd
  have hx := Mo.mo (R := Same) (s1.trans s2) hx
  have hy := Mo.mo (R := Same) (s1.trans s2) hy
  -- all within 0 and 1
  refine b_when (R := Same) (et_is (v := false) (et_c0 op_gt (ev_lenL T.n_len (lc_L 6 (own := [("_law_value", 6)]) (tt := RTB _ _ _) (F := isP) (G := isP) (as := ts) (fun _ => false) (fun r => r) moP (fun _ => inferInstance) (by omega) (ev_var 3 rfl pvv)
    (fun r u H3 hr' s3 hu K k => tt_one (b := false) (fun s0 H0 C cl fp => et_or2 (et_is (et_c0 op_lt (ev_p0 (ev_var 6 rfl hu)) ev_int) (by
      have := Rat.num_nonneg.mpr (c4 r hr').1
      simp only [decide_eq_false_iff_not]
      omega)) (et_is (et_c0 op_gt (ev_p0 (ev_var 6 rfl hu)) (ev_p1 (ev_var 6 rfl hu))) (by
      have h := (c4 r hr').2
      rw [Rat.le_iff] at h
      simp only [decide_eq_false_iff_not]
      simp at h
      omega))) k)
    (fun r u H3 hm hf _ _ => by cases hf)
    scRight.nd (fun s H0 C cl fp => pt_rtb s H0 C cl fp) (blkOk_by (N := nRight) (sc := defScope sL_right) (by decide +kernel)) (by decide) (fun _ _ _ _ _ => pg_name (i := 6) scRight.nd rfl (Or.inl rfl)))) ev_int) (by simp)) (fun ht => by cases ht) (fun _ H3 s3 => ?_)
  have hx := Mo.mo (R := Same) s3 hx
  have hy := Mo.mo (R := Same) s3 hy
  have pvv := Mo.mo (R := Same) s3 pvv
  -- the gaps
  refine b_set (R := Same) 4 (P := lstOf isI ((List.range rs.length).map (gapAt rs ts))) ((ev_lcR 7 (own := [("_law_k", 7)]) (n := rs.length) (tt := tYes) (fun _ => true) (gapAt rs ts) isI moI (by omega) T.n_range (ev_lenL T.n_len (ev_var 1 rfl hy)) (fun _ _ _ _ K k => tt_yes (f := fun _ => true) (i := 0) rfl k)
    (fun i H4 hi _ s4 => fun s0 H0 C cl fp => by
      have gr := getD_at (as := rs) hi
      have gt := getD_at (as := ts) (i := i) (by omega)
      have cp : condP (ts.getD i default, rs.getD i default) := by
        have b1 := c3.2.2.1 _ (List.mem_of_getElem? gt)
        have b2 := c2.2.2.1 _ (List.mem_of_getElem? gr)
        refine ⟨b1.mono (by decide), b2.mono (by decide), Nat.lt_of_le_of_lt (Nat.mul_le_mul (Nat.le_of_lt b1.2) (Nat.le_of_lt b2.2)) ?_⟩
        rw [← Nat.pow_add]
        exact Nat.pow_lt_pow_right (by decide) (by decide)
      exact ev_p0 (ev_call (ok_Lless T) (hr.mono (by decide)) _ cp (ea_cons (ev_ixL (ev_var 3 rfl (Mo.mo (R := Same) s4 pvv)) (ev_vv 7 rfl) (at_nat gt)) (ea_cons (ev_ixL (ev_var 1 rfl (Mo.mo (R := Same) s4 hy)) (ev_vv 7 rfl) (at_nat gr)) ea_nil))))
    scRight.nd (fun _ _ _ _ _ => pts_nil) (blkOk_by (N := nRight) (sc := defScope sL_right) (by decide +kernel)) (by decide) (fun _ _ _ _ _ => pg_name (i := 7) scRight.nd rfl (Or.inl rfl))).imp fun v H1 _ p => by rw [kept_all] at p; exact p) (fun vg H4 s4 pvg => ?_) scRight.nd
  have hx := Mo.mo (R := Same) s4 hx
  have hy := Mo.mo (R := Same) s4 hy
  have pvv := Mo.mo (R := Same) s4 pvv
  have gget : ∀ i, i < rs.length → ((List.range rs.length).map (gapAt rs ts))[i]? = some (gapAt rs ts i) := fun i hi => by
    rw [List.getElem?_map, List.getElem?_range hi]
    rfl
  -- what changed
  refine b_set (R := Same) 5 (P := lstOf isN (chgd rs ts)) ((ev_lcR 7 (own := [("_law_k", 7)]) (n := rs.length) (tt := RTB _ _ _) (fun i => !decide (gapAt rs ts i = 0)) (fun i => i) isN moNat (by omega) T.n_range (ev_is (ev_lenL T.n_len (ev_var 4 rfl pvg)) (by rw [List.length_map, List.length_range]))
    (fun i H5 hi s5 K k => tt_one (b := !decide (gapAt rs ts i = 0)) (fun s0 H0 C cl fp => et_is (et_ne (u := .int (gapAt rs ts i)) (v := .int 0) (ev_ixL (F := isI) (ev_var 4 rfl (Mo.mo (R := Same) s5 pvg)) (ev_vv 7 rfl) (at_nat (gget i hi))) ev_int) (by
      rw [Bool.eq_iff_iff]
      simp)) k)
    (fun i H5 hi _ s5 => fun s0 H0 C cl fp => ev_vv 7 rfl)
    scRight.nd (fun s H0 C cl fp => pt_rtb s H0 C cl fp) (blkOk_by (N := nRight) (sc := defScope sL_right) (by decide +kernel)) (by decide) (fun _ _ _ _ _ => pg_name (i := 7) scRight.nd rfl (Or.inl rfl))).imp fun v H1 _ p => by
      unfold kept at p
      rw [List.map_id'] at p
      exact p) (fun vc H5 s5 pvc => ?_) scRight.nd
  have hx := Mo.mo (R := Same) s5 hx
  have hy := Mo.mo (R := Same) s5 hy
  have pvv := Mo.mo (R := Same) s5 pvv
  have pvg := Mo.mo (R := Same) s5 pvg
  have cget : ∀ i, i < 4 → (chgd rs ts)[i]? = some ((chgd rs ts).getD i 0) := fun i hi => by
    rw [List.getD_eq_getElem?_getD, List.getElem?_eq_getElem (by omega)]
    rfl
  have clt : ∀ k ∈ chgd rs ts, k < rs.length := fun k hk => List.mem_range.mp (List.mem_filter.mp hk).1
  refine b_when (R := Same) (et_or2 (et_is (et_ne (ev_lenL T.n_len (ev_var 5 rfl pvc)) ev_int) (by rw [c5]; rfl)) (et_is (v := false) (et_c0 op_gt (ev_lenL T.n_len (ev_lcR 8 (own := [("_law_n", 8)]) (n := 3) (tt := RTB _ _ _) (fun _ => false) (fun i => i) isN moNat (by decide) T.n_range ev_int
    (fun i H6 hi s6 K k => tt_one (b := false) (fun s0 H0 C cl fp => by
      have g1 := cget i (by omega)
      have g2 := cget (i + 1) (by omega)
      have e1 := gget _ (clt _ (List.mem_of_getElem? g1))
      have e2 := gget _ (clt _ (List.mem_of_getElem? g2))
      have pvg6 := Mo.mo (R := Same) s6 pvg
      have pvc6 := Mo.mo (R := Same) s6 pvc
      refine et_is (et_eq (ev_c0 op_gt (ev_ixL (ev_var 4 rfl pvg6) (ev_ixL (F := isN) (ev_var 5 rfl pvc6) (ev_vv 8 rfl) (at_nat g1)) (at_nat e1)) ev_int) (ev_c0 op_gt (ev_ixL (ev_var 4 rfl pvg6) (ev_ixL (F := isN) (ev_var 5 rfl pvc6) (ev_is (v := .int ((i + 1 : Nat) : Int)) (ev_add (ev_vv 8 rfl) ev_int) (by congr 1)) (at_nat g2)) (at_nat e2)) ev_int)) ?_
      have h := c6 i hi
      have bb : ∀ u v : Bool, decide (V.bl u = V.bl v) = (u == v) := fun u v => by cases u <;> cases v <;> rfl
      rw [bb]
      exact h) k)
    (fun i H6 hi hf s6 => by cases hf)
    scRight.nd (fun s H0 C cl fp => pt_rtb s H0 C cl fp) (blkOk_by (N := nRight) (sc := defScope sL_right) (by decide +kernel)) (by decide) (fun _ _ _ _ _ => pg_name (i := 8) scRight.nd rfl (Or.inl rfl)))) ev_int) (by unfold kept; simp))) (fun ht => by cases ht) (fun _ H6 s6 => ?_)
  have hx := Mo.mo (R := Same) s6 hx
  have hy := Mo.mo (R := Same) s6 hy
  have pvv := Mo.mo (R := Same) s6 pvv
  have pvc := Mo.mo (R := Same) s6 pvc
  have t01 : ∀ {σ : SS} {H : Hp} {p1 p2 p3 : Pos} {n j1 j2 : Nat} {X : Cx}, EV Same X (.Tuple [.Constant (.int 0) j1 p1, .Constant (.int 1) j2 p2] n p3) σ H (isP 0) := fun {σ H p1 p2 p3 n j1 j2 X} => ev_tupU (F := isI) (as := [0, 1]) (ea_cons ev_int (ea_cons ev_int ea_nil)) (fun _ => inferInstance)
  have t11 : ∀ {σ : SS} {H : Hp} {p1 p2 p3 : Pos} {n j1 j2 : Nat} {X : Cx}, EV Same X (.Tuple [.Constant (.int 1) j1 p1, .Constant (.int 1) j2 p2] n p3) σ H (isP 1) := fun {σ H p1 p2 p3 n j1 j2 X} => ev_tupU (F := isI) (as := [1, 1]) (ea_cons ev_int (ea_cons ev_int ea_nil)) (fun _ => inferInstance)
  -- one at its edge
  refine b_when (R := Same) (et_is (v := false) (et_eq (ev_lenL T.n_len (lc_L 7 (own := [("_law_k", 7)]) (tt := RTB _ _ _) (F := isN) (G := isN) (as := chgd rs ts) (fun i => [(0 : Rat), 1].any fun z => decide (z = ts.getD i default)) (fun i => i) moNat (fun _ => inferInstance) (by omega) (ev_var 5 rfl pvc)
    (fun i u H7 hi s7 hu K k => tt_one (b := [(0 : Rat), 1].any fun z => decide (z = ts.getD i default)) (fun s0 H0 C cl fp => by
      cases hu
      have gt := getD_at (as := ts) (i := i) (by have := clt i hi; omega)
      exact et_inP (by
        have := hr.un
        show A.units + 3 + 65 < cLine
        have h2 : A.units + 3 + 16 * 4 + 200 < cLine := this
        omega) (ev_ixL (ev_var 3 rfl (Mo.mo (R := Same) s7 pvv)) (ev_vv 7 rfl) (at_nat gt)) (ev_lstU (F := isP) (as := [0, 1]) (ea_cons t01 (ea_cons t11 ea_nil)) (fun _ => inferInstance))) k)
    (fun i u H7 hi _ s7 hu => fun s0 H0 C cl fp => ev_var 7 rfl hu)
    scRight.nd (fun s H0 C cl fp => pt_rtb s H0 C cl fp) (blkOk_by (N := nRight) (sc := defScope sL_right) (by decide +kernel)) (by decide) (fun _ _ _ _ _ => pg_name (i := 7) scRight.nd rfl (Or.inl rfl)))) ev_int) (by
      obtain ⟨k, hk, e⟩ := c7
      have hm : k ∈ (chgd rs ts).filter fun i => [(0 : Rat), 1].any fun z => decide (z = ts.getD i default) := by
        refine List.mem_filter.mpr ⟨hk, ?_⟩
        rcases e with e | e <;> rw [e] <;> decide +kernel
      have hp := List.length_pos_of_mem hm
      rw [decide_eq_false_iff_not, List.length_map]
      intro e
      injection e with e
      omega)) (fun ht => by cases ht) (fun _ H7 s7 => ?_)
  have hx := Mo.mo (R := Same) s7 hx
  have hy := Mo.mo (R := Same) s7 hy
  have pvv := Mo.mo (R := Same) s7 pvv
  refine b_ret (R := Same) (P := isB true) (ev_cmp (op_eqD hr.units) (ev_call (ok_Lseen T) hr (gs, ts) c3 (ea_cons (ev_var 0 rfl hx) (ea_cons (ev_var 3 rfl pvv) ea_nil))) (ev_call (ok_Lseen T) hr (gs, rs) c2 (ea_cons (ev_var 0 rfl hx) (ea_cons (ev_var 1 rfl hy) ea_nil))) (fun u v H8 r pu pv Q' q => ?_)) fun v H8 s8 pv => k v H8 (s1.trans (s2.trans (s3.trans (s4.trans (s5.trans (s6.trans (s7.trans s8))))))) pv
  have pu : lstOf isP (seenL (gs, ts) gs.length) u H8 := pu
  rw [c8] at pu
  have pv : lstOf isP (seenL (gs, rs) gs.length) v H8 := pv
  refine ⟨_, _, dpL pu, dpL pv, shapedP _, shapedP _, q _ _ (Rel.rf _) ?_⟩
  show V.bl (PyData.eqv (.list _) (.list _)) = V.bl true
  rw [PyData.eqv, eqvPs]
end
end Ly
/-! Plain mathematics: patterns by kinds. -/
namespace CM
set_option maxHeartbeats 4000000
set_option maxRecDepth 100000
def okK (ks f : List Nat) (up : Bool) : Bool := (List.range 4).all fun i => !(Nat.beq (ks.getD (f.getD i 0) 2) (if up == evn i then 1 else 0))
def innerK (ks : List Nat) (i j : Nat) : List Nat := (ks.drop (i + 1)).take (j - (i + 1))
def outerK (ks : List Nat) (i j : Nat) : List Nat := ks.take i ++ ks.drop (j + 1)
def patKAt (ks : List Nat) (i j v o : Nat) : Bool := (innerK ks i j).all (Nat.beq v) && (outerK ks i j).all (Nat.beq o)
def patK (ks : List Nat) : Bool := (List.range ks.length).any fun j => (List.range j).any fun i => patKAt ks i j 1 0 || patKAt ks i j 0 1
def allK : Nat → List (List Nat)
  | 0 => [[]]
  | n + 1 => (allK n).flatMap fun ks => [0 :: ks, 1 :: ks, 2 :: ks]
def okAny (ks : List Nat) (fs : List (List Nat)) : Bool := fs.any fun f => okK ks f true || okK ks f false
def chk (n : Nat) : Bool := (allK n).all fun ks => patK ks == !(okAny ks (fours n))
theorem chk4 : chk 4 = true := by decide +kernel
theorem chk5 : chk 5 = true := by decide +kernel
theorem chk6 : chk 6 = true := by decide +kernel
theorem chk7 : chk 7 = true := by decide +kernel
end CM
/-! Plain mathematics: from shares to kinds. -/
namespace CM
set_option maxHeartbeats 4000000
set_option maxRecDepth 100000
def kind (r : Rat) : Nat := if r = 0 then 0 else if r = 1 then 1 else 2
theorem kind0 (r : Rat) : Nat.beq 0 (kind r) = decide (r = 0) := by
  unfold kind
  by_cases h : r = 0
  · rw [if_pos h, decide_eq_true h]
    rfl
  · rw [if_neg h, decide_eq_false h]
    by_cases h1 : r = 1
    · rw [if_pos h1]
      rfl
    · rw [if_neg h1]
      rfl
theorem kind1 (r : Rat) : Nat.beq 1 (kind r) = decide (r = 1) := by
  unfold kind
  by_cases h : r = 0
  · rw [if_pos h]
    have : ¬ r = 1 := by rw [h]; decide
    rw [decide_eq_false this]
    rfl
  · rw [if_neg h]
    by_cases h1 : r = 1
    · rw [if_pos h1, decide_eq_true h1]
      rfl
    · rw [if_neg h1, decide_eq_false h1]
      rfl
theorem kind_mem (r : Rat) : kind r = 0 ∨ kind r = 1 ∨ kind r = 2 := by
  unfold kind
  by_cases h : r = 0
  · rw [if_pos h]; exact .inl rfl
  · rw [if_neg h]
    by_cases h1 : r = 1
    · rw [if_pos h1]; exact .inr (.inl rfl)
    · rw [if_neg h1]; exact .inr (.inr rfl)
theorem kinds_mem : ∀ rs : List Rat, rs.map kind ∈ allK rs.length
  | [] => List.mem_singleton.mpr rfl
  | r :: rs => by
    refine List.mem_flatMap.mpr ⟨rs.map kind, kinds_mem rs, ?_⟩
    rw [List.map_cons]
    rcases kind_mem r with e | e | e <;> rw [e] <;> simp
theorem nlen {α : Type} (l : List α) (p : α → Bool) : decide (((l.filter fun r => !p r).length : Int) = 0) = l.all p := by
  rw [Bool.eq_iff_iff, decide_eq_true_eq, List.all_eq_true]
  constructor
  · intro h x hx
    have h0 : (l.filter fun r => !p r) = [] := List.eq_nil_of_length_eq_zero (by omega)
    cases hp : p x with
    | true => rfl
    | false =>
      have : x ∈ l.filter fun r => !p r := List.mem_filter.mpr ⟨hx, by simp [hp]⟩
      rw [h0] at this
      cases this
  · intro h
    have h0 : (l.filter fun r => !p r) = [] := by
      refine List.filter_eq_nil_iff.mpr fun x hx => ?_
      rw [h x hx]
      decide
    rw [h0]
    rfl
theorem patAt1 (rs : List Rat) (i j : Nat) : patAt rs i j 1 = patKAt (rs.map kind) i j 1 0 := by
  unfold patAt patKAt innerK outerK
  have e0 : (1 : Rat) - 1 = 0 := by decide +kernel
  rw [e0, nlen _ (fun r => decide (r = 1)), nlen _ (fun r => decide (r = 0))]
  unfold inner outer
  rw [← List.map_drop, ← List.map_take, ← List.map_take, ← List.map_drop, ← List.map_append, List.all_map, List.all_map]
  congr 1
  · congr 1; funext r; exact (kind1 r).symm
  · congr 1; funext r; exact (kind0 r).symm
theorem patAt0 (rs : List Rat) (i j : Nat) : patAt rs i j 0 = patKAt (rs.map kind) i j 0 1 := by
  unfold patAt patKAt innerK outerK
  have e0 : (1 : Rat) - 0 = 1 := by decide +kernel
  rw [e0, nlen _ (fun r => decide (r = 0)), nlen _ (fun r => decide (r = 1))]
  unfold inner outer
  rw [← List.map_drop, ← List.map_take, ← List.map_take, ← List.map_drop, ← List.map_append, List.all_map, List.all_map]
  congr 1
  · congr 1; funext r; exact (kind0 r).symm
  · congr 1; funext r; exact (kind1 r).symm
theorem patB_K (rs : List Rat) : patB rs = patK (rs.map kind) := by
  unfold patB patK
  rw [List.length_map]
  congr 1
  funext j
  congr 1
  funext i
  rw [patAt1, patAt0]
theorem all4 {α : Type} (g : Nat → α) (p : α → Bool) : ((List.range 4).map g).all p = (List.range 4).all fun i => p (g i) := by
  rw [List.all_map]
  rfl
theorem beqs (a b : Nat) : Nat.beq a b = Nat.beq b a := by
  rw [Bool.eq_iff_iff]
  constructor <;> intro h <;> rw [Nat.eq_of_beq_eq_true h] <;> exact Nat.beq_refl _
theorem room_kind (r : Rat) (h0 : 0 ≤ r) (h1 : r ≤ 1) (u : Bool) : decide (0 < room r u) = !(Nat.beq (kind r) (if u then 1 else 0)) := by
  cases u with
  | true =>
    show decide (0 < 1 - r) = !(Nat.beq (kind r) 1)
    rw [beqs, kind1, Bool.eq_iff_iff]
    simp only [decide_eq_true_eq, Bool.not_eq_true', decide_eq_false_iff_not]
    constructor
    · intro h e
      rw [e] at h
      exact absurd h (by decide +kernel)
    · intro h
      grind
  | false =>
    show decide (0 < r) = !(Nat.beq (kind r) 0)
    rw [beqs, kind0, Bool.eq_iff_iff]
    simp only [decide_eq_true_eq, Bool.not_eq_true', decide_eq_false_iff_not]
    constructor
    · intro h e
      rw [e] at h
      exact absurd h (by decide +kernel)
    · intro h
      grind
theorem okF_K {rs : List Rat} (h : ∀ r ∈ rs, 0 ≤ r ∧ r ≤ 1) {f : List Nat} (hf : ∀ i, f.getD i 0 < rs.length) (up : Bool) : okF rs f up = okK (rs.map kind) f up := by
  unfold okF rooms okK
  rw [all4]
  congr 1
  funext i
  have hi := hf i
  have e1 : rs.getD (f.getD i 0) default = rs[f.getD i 0] := by
    rw [List.getD_eq_getElem?_getD, List.getElem?_eq_getElem hi]
    rfl
  have e2 : (rs.map kind).getD (f.getD i 0) 2 = kind rs[f.getD i 0] := by
    rw [List.getD_eq_getElem?_getD, List.getElem?_map, List.getElem?_eq_getElem hi]
    rfl
  rw [e1, e2]
  obtain ⟨b0, b1⟩ := h _ (List.getElem_mem hi)
  exact room_kind _ b0 b1 _
theorem getD_lt {n : Nat} {f : List Nat} (h1 : 4 ≤ n) (h2 : n ≤ 7) (h : f ∈ fours n) (i : Nat) : f.getD i 0 < n := by
  obtain ⟨a, b, c, d, rfl, q1, q2, q3, q4⟩ := fours_get h1 h2 h
  match i with
  | 0 => show a < n; omega
  | 1 => show b < n; omega
  | 2 => show c < n; omega
  | 3 => exact q4
  | k + 4 => show 0 < n; omega
theorem pat_iff {rs : List Rat} (h1 : 4 ≤ rs.length) (h2 : rs.length ≤ 7) (h : ∀ r ∈ rs, 0 ≤ r ∧ r ≤ 1) : patB rs = true ↔ ∀ f ∈ fours rs.length, ∀ up, okF rs f up = false := by
  have hc : chk rs.length = true := n47 (P := fun n => chk n = true) chk4 chk5 chk6 chk7 rs.length h1 h2
  have q := List.all_eq_true.mp hc (rs.map kind) (kinds_mem rs)
  have q := eq_of_beq q
  rw [patB_K, q]
  rw [Bool.not_eq_true']
  unfold okAny
  rw [List.any_eq_false]
  constructor
  · intro hh f hf up
    have := hh f hf
    rw [okF_K h (getD_lt h1 h2 hf)]
    cases e1 : okK (rs.map kind) f true with
    | true => rw [e1] at this; simp at this
    | false =>
      cases e2 : okK (rs.map kind) f false with
      | true => rw [e2] at this; simp at this
      | false => cases up <;> assumption
  · intro hh f hf
    rw [← okF_K h (getD_lt h1 h2 hf), ← okF_K h (getD_lt h1 h2 hf), hh f hf true, hh f hf false]
    decide
end CM
/-! Plain mathematics: what the change gives. -/
namespace CM
set_option maxHeartbeats 4000000
set_option maxRecDepth 100000
/-! ### the step -/
theorem lstep_l (s : Rat) (z : Rat × Rat) : lstep s z ≤ s := by
  unfold lstep
  by_cases h : z.1 / z.2 < s
  · rw [if_pos h]; exact Rat.le_of_lt h
  · rw [if_neg h]; exact Rat.le_refl
theorem lstep_r (s : Rat) (z : Rat × Rat) : lstep s z ≤ z.1 / z.2 := by
  unfold lstep
  by_cases h : z.1 / z.2 < s
  · rw [if_pos h]; exact Rat.le_refl
  · rw [if_neg h]; exact Rat.not_lt.mp h
theorem lstep_or (s : Rat) (z : Rat × Rat) : lstep s z = s ∨ lstep s z = z.1 / z.2 := by
  unfold lstep
  by_cases h : z.1 / z.2 < s
  · rw [if_pos h]; exact .inr rfl
  · rw [if_neg h]; exact .inl rfl
theorem step_spec (R D : Nat → Rat) (hR : ∀ i, i < 4 → 0 < R i) (hD : ∀ i, i < 4 → 0 < D i) {s : Rat} (hs : s = stepOf ((List.range 4).map R) ((List.range 4).map D)) :
    0 < s ∧ (∀ i, i < 4 → s * D i ≤ R i) ∧ ∃ m, m < 4 ∧ s * D m = R m ∧ s = R m / D m := by
  have e : s = lstep (lstep (lstep (lstep (R 0 / D 0) (R 0, D 0)) (R 1, D 1)) (R 2, D 2)) (R 3, D 3) := hs
  have dm : ∀ i, i < 4 → R i / D i * D i = R i := fun i hi => Rat.div_mul_cancel (by have := hD i hi; grind)
  have all : ∀ i, i < 4 → s ≤ R i / D i := by
    have l3 := lstep_l (lstep (lstep (lstep (R 0 / D 0) (R 0, D 0)) (R 1, D 1)) (R 2, D 2)) (R 3, D 3)
    have l2 := lstep_l (lstep (lstep (R 0 / D 0) (R 0, D 0)) (R 1, D 1)) (R 2, D 2)
    have l1 := lstep_l (lstep (R 0 / D 0) (R 0, D 0)) (R 1, D 1)
    have r3 := lstep_r (lstep (lstep (lstep (R 0 / D 0) (R 0, D 0)) (R 1, D 1)) (R 2, D 2)) (R 3, D 3)
    have r2 := lstep_r (lstep (lstep (R 0 / D 0) (R 0, D 0)) (R 1, D 1)) (R 2, D 2)
    have r1 := lstep_r (lstep (R 0 / D 0) (R 0, D 0)) (R 1, D 1)
    have r0 := lstep_r (R 0 / D 0) (R 0, D 0)
    rw [← e] at l3 r3
    intro i hi
    have cases4 : i = 0 ∨ i = 1 ∨ i = 2 ∨ i = 3 := by omega
    rcases cases4 with h | h | h | h <;> subst h
    · exact Rat.le_trans l3 (Rat.le_trans l2 (Rat.le_trans l1 r0))
    · exact Rat.le_trans l3 (Rat.le_trans l2 r1)
    · exact Rat.le_trans l3 r2
    · exact r3
  have some1 : ∃ m, m < 4 ∧ s = R m / D m := by
    rw [e]
    rcases lstep_or (lstep (lstep (lstep (R 0 / D 0) (R 0, D 0)) (R 1, D 1)) (R 2, D 2)) (R 3, D 3) with h | h
    · rw [h]
      rcases lstep_or (lstep (lstep (R 0 / D 0) (R 0, D 0)) (R 1, D 1)) (R 2, D 2) with h | h
      · rw [h]
        rcases lstep_or (lstep (R 0 / D 0) (R 0, D 0)) (R 1, D 1) with h | h
        · rw [h]
          rcases lstep_or (R 0 / D 0) (R 0, D 0) with h | h
          · exact ⟨0, by decide, h⟩
          · exact ⟨0, by decide, h⟩
        · exact ⟨1, by decide, h⟩
      · exact ⟨2, by decide, h⟩
    · exact ⟨3, by decide, h⟩
  obtain ⟨m, hm, es⟩ := some1
  have em : s * D m = R m := by rw [es]; exact dm m hm
  refine ⟨?_, fun i hi => ?_, m, hm, em, es⟩
  · have h1 := hR m hm
    have h2 := hD m hm
    rcases Rat.le_total (a := s) (b := 0) with h | h
    · have := Rat.mul_le_mul_of_nonneg_right h (Rat.le_of_lt h2)
      rw [em, Rat.zero_mul] at this
      grind
    · have : s ≠ 0 := fun e => by
        rw [e, Rat.zero_mul] at em
        grind
      grind
  · have := Rat.mul_le_mul_of_nonneg_right (all i hi) (Rat.le_of_lt (hD i hi))
    rw [dm i hi] at this
    exact this
/-! ### lists with one place changed -/
theorem getD_set (rs : List Rat) (a k : Nat) (v : Rat) (ha : a < rs.length) : (rs.set a v).getD k default = if k = a then v else rs.getD k default := by
  rw [List.getD_eq_getElem?_getD, List.getD_eq_getElem?_getD, List.getElem?_set]
  by_cases h : a = k
  · subst h
    rw [if_pos rfl, if_pos ha, if_pos rfl]
    rfl
  · rw [if_neg h, if_neg (fun e => h e.symm)]
theorem seen_set (p : Nat → Nat → Rat) (rs : List Rat) (j a : Nat) (v : Rat) (ha : a < rs.length) : ∀ n, seenAt p (rs.set a v) j n = seenAt p rs j n + (if a < n then (v - rs.getD a default) * p a j else 0)
  | 0 => by
    show (0 : Rat) = 0 + _
    rw [if_neg (by omega)]
    decide +kernel
  | n + 1 => by
    show seenAt p (rs.set a v) j n + (rs.set a v).getD n default * p n j = seenAt p rs j n + rs.getD n default * p n j + _
    rw [seen_set p rs j a v ha n, getD_set rs a n v ha]
    by_cases h : n = a
    · subst h
      rw [if_neg (by omega), if_pos rfl, if_pos (by omega)]
      grind
    · rw [if_neg h]
      by_cases h2 : a < n
      · rw [if_pos h2, if_pos (by omega)]
        grind
      · rw [if_neg h2, if_neg (by omega)]
        grind
/-- the change, place by place -/
theorem chg_val {rs : List Rat} {a b c d : Nat} (h1 : a < b) (h2 : b < c) (h3 : c < d) (h4 : d < rs.length) (ds : List Rat) (s : Rat) (up : Bool) (k : Nat) :
    (chgW rs [a, b, c, d] ds s up 4).getD k default = if k = d then mv (rs.getD d default) s (ds.getD 3 default) (up == evn 3) else if k = c then mv (rs.getD c default) s (ds.getD 2 default) (up == evn 2) else if k = b then mv (rs.getD b default) s (ds.getD 1 default) (up == evn 1) else if k = a then mv (rs.getD a default) s (ds.getD 0 default) (up == evn 0) else rs.getD k default := by
  show ((((rs.set a (mv (rs.getD a default) s (ds.getD 0 default) (up == evn 0))).set b (mv (rs.getD b default) s (ds.getD 1 default) (up == evn 1))).set c (mv (rs.getD c default) s (ds.getD 2 default) (up == evn 2))).set d (mv (rs.getD d default) s (ds.getD 3 default) (up == evn 3))).getD k default = _
  rw [getD_set _ _ _ _ (by first | omega | (simp only [List.length_set]; omega)), getD_set _ _ _ _ (by first | omega | (simp only [List.length_set]; omega)), getD_set _ _ _ _ (by first | omega | (simp only [List.length_set]; omega)), getD_set _ _ _ _ (by omega)]
theorem chg_len (rs : List Rat) (gs : List V3) (f : List Nat) (up : Bool) : (chg rs gs f up).length = rs.length := by
  unfold chg chgW chgW chgW chgW chgW
  simp only [List.length_set]
theorem seen_chg (p : Nat → Nat → Rat) {rs : List Rat} {a b c d : Nat} (h1 : a < b) (h2 : b < c) (h3 : c < d) (h4 : d < rs.length) (ds : List Rat) (s : Rat) (up : Bool) (j : Nat) (hz : ds.getD 0 default * p a j - ds.getD 1 default * p b j + ds.getD 2 default * p c j - ds.getD 3 default * p d j = 0) :
    seenAt p (chgW rs [a, b, c, d] ds s up 4) j rs.length = seenAt p rs j rs.length := by
  show seenAt p ((((rs.set a (mv (rs.getD a default) s (ds.getD 0 default) (up == evn 0))).set b (mv (rs.getD b default) s (ds.getD 1 default) (up == evn 1))).set c (mv (rs.getD c default) s (ds.getD 2 default) (up == evn 2))).set d (mv (rs.getD d default) s (ds.getD 3 default) (up == evn 3))) j rs.length = _
  rw [seen_set _ _ _ _ _ (by first | omega | (simp only [List.length_set]; omega)), seen_set _ _ _ _ _ (by first | omega | (simp only [List.length_set]; omega)), seen_set _ _ _ _ _ (by first | omega | (simp only [List.length_set]; omega)), seen_set _ _ _ _ _ (by omega)]
  rw [if_pos (by omega), if_pos (by omega), if_pos (by omega), if_pos (by omega)]
  rw [getD_set _ _ _ _ (by first | omega | (simp only [List.length_set]; omega)), getD_set _ _ _ _ (by first | omega | (simp only [List.length_set]; omega)), getD_set _ _ _ _ (by first | omega | (simp only [List.length_set]; omega)), getD_set _ _ _ _ (by first | omega | (simp only [List.length_set]; omega)), getD_set _ _ _ _ (by first | omega | (simp only [List.length_set]; omega)), getD_set _ _ _ _ (by omega)]
  rw [if_neg (by omega), if_neg (by omega), if_neg (by omega), if_neg (by omega), if_neg (by omega), if_neg (by omega)]
  generalize rs.getD a default = ra
  generalize rs.getD b default = rb
  generalize rs.getD c default = rc
  generalize rs.getD d default = rd
  generalize ds.getD 0 default = d0 at *
  generalize ds.getD 1 default = d1 at *
  generalize ds.getD 2 default = d2 at *
  generalize ds.getD 3 default = d3 at *
  generalize p a j = pa at *
  generalize p b j = pb at *
  generalize p c j = pc at *
  generalize p d j = pd at *
  generalize seenAt p rs j rs.length = S
  cases up with
  | true =>
    show S + (ra + s * d0 - ra) * pa + (rb - s * d1 - rb) * pb + (rc + s * d2 - rc) * pc + (rd - s * d3 - rd) * pd = S
    have : (ra + s * d0 - ra) * pa + (rb - s * d1 - rb) * pb + (rc + s * d2 - rc) * pc + (rd - s * d3 - rd) * pd = s * (d0 * pa - d1 * pb + d2 * pc - d3 * pd) := by grind
    rw [hz] at this
    grind
  | false =>
    show S + (ra - s * d0 - ra) * pa + (rb + s * d1 - rb) * pb + (rc - s * d2 - rc) * pc + (rd + s * d3 - rd) * pd = S
    have : (ra - s * d0 - ra) * pa + (rb + s * d1 - rb) * pb + (rc - s * d2 - rc) * pc + (rd + s * d3 - rd) * pd = -s * (d0 * pa - d1 * pb + d2 * pc - d3 * pd) := by grind
    rw [hz] at this
    grind
theorem cramer_x (a b c d : V3) : det3 b c d * a.x - det3 a c d * b.x + det3 a b d * c.x - det3 a b c * d.x = 0 := by
  unfold det3; grind
theorem cramer_y (a b c d : V3) : det3 b c d * a.y - det3 a c d * b.y + det3 a b d * c.y - det3 a b c * d.y = 0 := by
  unfold det3; grind
theorem cramer_z (a b c d : V3) : det3 b c d * a.z - det3 a c d * b.z + det3 a b d * c.z - det3 a b c * d.z = 0 := by
  unfold det3; grind
/-! ### sums of vectors -/
def cx (gs : List V3) (k _ : Nat) : Rat := (gs.getD k default).x
def cy (gs : List V3) (k _ : Nat) : Rat := (gs.getD k default).y
def cz (gs : List V3) (k _ : Nat) : Rat := (gs.getD k default).z
theorem vsum_eq (rs : List Rat) (gs : List V3) : ∀ n, vsum ((List.range n).map fun i => V3.scale (rs.getD i default) (gs.getD i default)) = ⟨seenAt (cx gs) rs 0 n, seenAt (cy gs) rs 0 n, seenAt (cz gs) rs 0 n⟩
  | 0 => rfl
  | n + 1 => by
    rw [List.range_succ, List.map_append]
    have ih := vsum_eq rs gs n
    unfold vsum at ih ⊢
    rw [List.foldl_append, ih]
    rfl
theorem seen_lin (p : Nat → Nat → Rat) (rs ts hs : List Rat) (j : Nat) : ∀ n, (∀ k, k < n → hs.getD k default = (rs.getD k default + ts.getD k default) * Rat.divInt 1 2) → seenAt p hs j n = (seenAt p rs j n + seenAt p ts j n) * Rat.divInt 1 2
  | 0, _ => by
    show (0 : Rat) = (0 + 0) * _
    grind
  | n + 1, h => by
    show seenAt p hs j n + hs.getD n default * p n j = (seenAt p rs j n + rs.getD n default * p n j + (seenAt p ts j n + ts.getD n default * p n j)) * _
    rw [seen_lin p rs ts hs j n (fun k hk => h k (by omega)), h n (by omega)]
    grind
end CM
set_option Elab.async false
set_option linter.all false
set_option maxRecDepth 100000
set_option maxHeartbeats 4000000
/-! What the law's end needs of plain mathematics: bands, generators. -/
namespace Ly
open PySem PySem.Spec PyProof.Rows L2
/-- what one turn draws -/
structure Draw (z : List Int × List Int) (ls : List Int) (rs : List Rat) : Prop where
  t : okT z.1 z.2
  l1 : ls.length = (bandsOf z).length
  l2 : ∀ l ∈ ls, okL l
  r1 : rs.length = (bandsOf z).length
  r2 : ∀ r ∈ rs, okQ r
def half (rs ts : List Rat) : List Rat := (List.range rs.length).map fun i => (rs.getD i default + ts.getD i default) * Rat.divInt 1 2
theorem blen (z : List Int × List Int) : (bandsOf z).length = z.1.length := by
  unfold bandsOf
  rw [List.length_map, List.length_range]
theorem bands_len {z : List Int × List Int} (h : okT z.1 z.2) : 4 ≤ (bandsOf z).length ∧ (bandsOf z).length ≤ 7 := by
  rw [blen]
  exact ⟨h.1, h.2.1⟩
theorem okT_at {ts ms : List Int} (h : okT ts ms) {i : Nat} (hi : i < ts.length) : (0 ≤ ts.getD i default ∧ ts.getD i default ≤ 10) ∧ (ms.getD i default = 1 ∨ (ms.getD i default = 2 ∧ 2 * ts.getD i default * ts.getD i default ≤ 100)) := by
  obtain ⟨h1, h2, h3, h4, h5, h6⟩ := h
  have gt := getD_at (as := ts) hi
  have gm := getD_at (as := ms) (i := i) (by omega)
  exact ⟨h5 _ (List.mem_of_getElem? gt), h6 i _ _ gm gt⟩
theorem okT_lt {ts ms : List Int} (h : okT ts ms) {i j : Nat} (hij : i < j) (hj : j < ts.length) : ts.getD i default < ts.getD j default := by
  obtain ⟨h1, h2, h3, h4, h5, h6⟩ := h
  have := List.pairwise_iff_getElem.mp h4 i j (by omega) hj hij
  rw [List.getD_eq_getElem?_getD, List.getD_eq_getElem?_getD, List.getElem?_eq_getElem (show i < ts.length by omega), List.getElem?_eq_getElem hj]
  exact this
theorem band_get (z : List Int × List Int) {i : Nat} (hi : i < z.1.length) : (bandsOf z)[i]? = some (bandOf z.1 z.2 i) := by
  unfold bandsOf
  rw [List.getElem?_map, List.getElem?_range hi]
  rfl
theorem sq_bound {t : Int} (h0 : 0 ≤ t) (h1 : t ≤ 10) : 0 ≤ t * t ∧ t * t ≤ 100 := ⟨Int.mul_nonneg h0 h0, by
  have := Int.mul_le_mul h1 h1 h0 (by decide)
  omega⟩
theorem band_ok {ts ms : List Int} (h : okT ts ms) {i : Nat} (hi : i < ts.length) : (bandOf ts ms i).ok := by
  obtain ⟨⟨h1, h2⟩, h3⟩ := okT_at h hi
  have sb := sq_bound h1 h2
  unfold bandOf I3.ok
  generalize ts.getD i default = t at *
  generalize ms.getD i default = m at *
  rcases h3 with e | ⟨e, h⟩
  · subst e
    simp only [Int.one_mul]
    omega
  · subst e
    have : 2 * t * t = 2 * (t * t) := by grind
    rw [this] at h ⊢
    show (0 ≤ (2 : Int) ∧ (2 : Int) ≤ 100) ∧ (0 ≤ 2 * t ∧ 2 * t ≤ 100) ∧ (0 ≤ 2 * (t * t) ∧ 2 * (t * t) ≤ 100)
    omega
theorem bands_okall {z : List Int × List Int} (h : okT z.1 z.2) : ∀ b ∈ bandsOf z, b.ok := by
  intro b hb
  obtain ⟨i, hi, rfl⟩ := List.mem_map.mp hb
  exact band_ok h (List.mem_range.mp hi)
/-- the determinant of three lit bands -/
def dz (l m t : Nat → Int) (i j k : Nat) : Int := (l i * l j * l k) * (m i * m j * m k) * ((t j - t i) * (t k - t i) * (t k - t j))
theorem det_dz (l m t : Nat → Int) (i j k : Nat) (g : Nat → CM.V3) (hg : ∀ i, g i = CM.V3.scale ((l i : Int) : Rat) ⟨((m i : Int) : Rat), ((m i * t i : Int) : Rat), ((m i * t i * t i : Int) : Rat)⟩) : CM.det3 (g i) (g j) (g k) = ((dz l m t i j k : Int) : Rat) := by
  rw [hg, hg, hg]
  unfold CM.det3 CM.V3.scale dz
  simp only [Rat.intCast_mul, Rat.intCast_sub]
  grind
theorem mulb {a b A B : Int} (h1 : 0 < a ∧ a ≤ A) (h2 : 0 < b ∧ b ≤ B) : 0 < a * b ∧ a * b ≤ A * B := ⟨Int.mul_pos h1.1 h2.1, Int.mul_le_mul h1.2 h2.2 (by omega) (by omega)⟩
theorem dz_bound {l m t : Nat → Int} {i j k : Nat} (hl : ∀ x, x = i ∨ x = j ∨ x = k → 1 ≤ l x ∧ l x ≤ 100) (hm : ∀ x, x = i ∨ x = j ∨ x = k → 1 ≤ m x ∧ m x ≤ 2) (ht : ∀ x, x = i ∨ x = j ∨ x = k → 0 ≤ t x ∧ t x ≤ 10) (h1 : t i < t j) (h2 : t j < t k) : 0 < dz l m t i j k ∧ dz l m t i j k ≤ 8000000000 := by
  have l1 := hl i (.inl rfl)
  have l2 := hl j (.inr (.inl rfl))
  have l3 := hl k (.inr (.inr rfl))
  have m1 := hm i (.inl rfl)
  have m2 := hm j (.inr (.inl rfl))
  have m3 := hm k (.inr (.inr rfl))
  have t1 := ht i (.inl rfl)
  have t2 := ht j (.inr (.inl rfl))
  have t3 := ht k (.inr (.inr rfl))
  have a := mulb (mulb (a := l i) (b := l j) (A := 100) (B := 100) (by omega) (by omega)) (b := l k) (B := 100) (by omega)
  have b := mulb (mulb (a := m i) (b := m j) (A := 2) (B := 2) (by omega) (by omega)) (b := m k) (B := 2) (by omega)
  have c := mulb (mulb (a := t j - t i) (b := t k - t i) (A := 10) (B := 10) (by omega) (by omega)) (b := t k - t j) (B := 10) (by omega)
  have d := mulb (mulb a b) c
  unfold dz
  exact ⟨d.1, Int.le_trans d.2 (by decide)⟩
theorem bands_ok {z : List Int × List Int} (h : okT z.1 z.2) : condO (bandsOf z) := by
  obtain ⟨n4, n7⟩ := bands_len h
  refine ⟨n4, n7, bands_okall h, ?_⟩
  intro i j k a b c hij hjk ha hb hc
  have hk : k < z.1.length := by
    have := (List.getElem?_eq_some_iff.mp hc).1
    rw [List.length_map, blen] at this
    exact this
  have e : ∀ x, x < z.1.length → ((bandsOf z).map I3.v)[x]? = some (I3.v (bandOf z.1 z.2 x)) := fun x hx => by
    rw [List.getElem?_map, band_get z hx]
    rfl
  rw [e i (by omega)] at ha
  rw [e j (by omega)] at hb
  rw [e k hk] at hc
  cases ha; cases hb; cases hc
  have sc : ∀ x, I3.v (bandOf z.1 z.2 x) = CM.V3.scale (((fun _ : Nat => (1 : Int)) x : Int) : Rat) ⟨(((fun x => z.2.getD x default) x : Int) : Rat), (((fun x => z.2.getD x default) x * (fun x => z.1.getD x default) x : Int) : Rat), (((fun x => z.2.getD x default) x * (fun x => z.1.getD x default) x * (fun x => z.1.getD x default) x : Int) : Rat)⟩ := fun x => by
    unfold I3.v bandOf CM.V3.scale
    have e1 : ((1 : Int) : Rat) = 1 := rfl
    simp only [e1, Rat.one_mul]
  rw [det_dz (fun _ => 1) (fun x => z.2.getD x default) (fun x => z.1.getD x default) i j k (fun x => I3.v (bandOf z.1 z.2 x)) sc]
  rw [Rat.intCast_pos]
  have lt : ∀ x, x = i ∨ x = j ∨ x = k → x < z.1.length := fun x hx => by omega
  refine (dz_bound (fun x hx => by show (1 : Int) ≤ 1 ∧ (1 : Int) ≤ 100; decide) (fun x hx => ?_) (fun x hx => (okT_at h (lt x hx)).1) (okT_lt h hij (by omega)) (okT_lt h hjk hk)).1
  rcases (okT_at h (lt x hx)).2 with e | ⟨e, _⟩
  · show 1 ≤ z.2.getD x default ∧ z.2.getD x default ≤ 2
    omega
  · show 1 ≤ z.2.getD x default ∧ z.2.getD x default ≤ 2
    omega
theorem draw_bd {rs : List Rat} (h : ∀ r ∈ rs, okQ r) : ∀ r ∈ rs, CM.Bd 12 r := by
  intro r hr
  obtain ⟨h0, h1, h2⟩ := h r hr
  have n0 := Rat.num_nonneg.mpr h0
  have h1 := (Rat.le_iff _ _).mp h1
  have h1 : r.num ≤ (r.den : Int) := by simpa using h1
  exact ⟨by show r.num.natAbs < 4096; omega, by show r.den < 4096; omega⟩
section
variable {z : List Int × List Int} {ls : List Int} {rs : List Rat}
theorem Draw.len (h : Draw z ls rs) : z.1.length = rs.length ∧ ls.length = rs.length ∧ 4 ≤ rs.length ∧ rs.length ≤ 7 := by
  have h1 := blen z
  have h2 := h.l1
  have h3 := h.r1
  have h4 := h.t.1
  have h5 := h.t.2.1
  omega
theorem Draw.refl (h : Draw z ls rs) : Refl rs := fun r hr => ⟨(h.r2 r hr).1, (h.r2 r hr).2.1⟩
theorem gen_at (h : Draw z ls rs) {i : Nat} (hi : i < rs.length) : (gens (bandsOf z, ls)).getD i default = CM.V3.scale (((fun x => ls.getD x default) i : Int) : Rat) ⟨(((fun x => z.2.getD x default) i : Int) : Rat), (((fun x => z.2.getD x default) i * (fun x => z.1.getD x default) i : Int) : Rat), (((fun x => z.2.getD x default) i * (fun x => z.1.getD x default) i * (fun x => z.1.getD x default) i : Int) : Rat)⟩ := by
  obtain ⟨n1, n2, n3, n4⟩ := h.len
  have e : (gens (bandsOf z, ls))[i]? = some (CM.V3.scale ((ls.getD i default : Int) : Rat) (((bandsOf z).map I3.v).getD i default)) := by
    unfold gens
    rw [List.getElem?_map, List.getElem?_range (by show i < ls.length; omega)]
    rfl
  rw [getD_some e]
  have e2 : ((bandsOf z).map I3.v)[i]? = some (I3.v (bandOf z.1 z.2 i)) := by
    rw [List.getElem?_map, band_get z (by omega)]
    rfl
  rw [getD_some e2]
  rfl
/-- the determinant of three generators is an int, not great -/
theorem gen_det (h : Draw z ls rs) {i j k : Nat} (hij : i < j) (hjk : j < k) (hk : k < rs.length) : ∃ d : Int, CM.det3 ((gens (bandsOf z, ls)).getD i default) ((gens (bandsOf z, ls)).getD j default) ((gens (bandsOf z, ls)).getD k default) = (d : Rat) ∧ 0 < d ∧ d ≤ 8000000000 := by
  obtain ⟨n1, n2, n3, n4⟩ := h.len
  have e := det_dz (fun x => ls.getD x default) (fun x => z.2.getD x default) (fun x => z.1.getD x default) i j k (fun i => CM.V3.scale (((fun x => ls.getD x default) i : Int) : Rat) ⟨(((fun x => z.2.getD x default) i : Int) : Rat), (((fun x => z.2.getD x default) i * (fun x => z.1.getD x default) i : Int) : Rat), (((fun x => z.2.getD x default) i * (fun x => z.1.getD x default) i * (fun x => z.1.getD x default) i : Int) : Rat)⟩) (fun _ => rfl)
  refine ⟨dz (fun x => ls.getD x default) (fun x => z.2.getD x default) (fun x => z.1.getD x default) i j k, ?_, ?_⟩
  · rw [gen_at h (show i < rs.length by omega), gen_at h (show j < rs.length by omega), gen_at h hk]
    exact e
  · have lt : ∀ x, x = i ∨ x = j ∨ x = k → x < z.1.length := fun x hx => by omega
    refine dz_bound (fun x hx => ?_) (fun x hx => ?_) (fun x hx => (okT_at h.t (lt x hx)).1) (okT_lt h.t hij (by omega)) (okT_lt h.t hjk (by omega))
    · have gl := getD_at (as := ls) (i := x) (by have := lt x hx; omega)
      exact h.l2 _ (List.mem_of_getElem? gl)
    · rcases (okT_at h.t (lt x hx)).2 with e | ⟨e, _⟩
      · show 1 ≤ z.2.getD x default ∧ z.2.getD x default ≤ 2
        omega
      · show 1 ≤ z.2.getD x default ∧ z.2.getD x default ≤ 2
        omega
theorem gen_odet (h : Draw z ls rs) {f : List Nat} (hf : f ∈ CM.fours rs.length) {i : Nat} (hi : i < 4) : ∃ d : Int, CM.odet (gens (bandsOf z, ls)) f i = (d : Rat) ∧ 0 < d ∧ d ≤ 8000000000 := by
  obtain ⟨n1, n2, n3, n4⟩ := h.len
  obtain ⟨a, b, c, d, rfl, h1, h2, h3, h4⟩ := CM.fours_get n3 n4 hf
  have cases4 : i = 0 ∨ i = 1 ∨ i = 2 ∨ i = 3 := by omega
  rcases cases4 with e | e | e | e <;> subst e
  · exact gen_det h h2 h3 h4
  · exact gen_det h (Nat.lt_trans h1 h2) h3 h4
  · exact gen_det h h1 (Nat.lt_trans h2 h3) h4
  · exact gen_det h h1 h2 (Nat.lt_trans h3 h4)
theorem draw_M (h : Draw z ls rs) : condM ((bandsOf z, ls), 12, rs) := by
  obtain ⟨n1, n2, n3, n4⟩ := h.len
  refine ⟨n2, by show 12 ≤ 300; decide, n3, n4, h.refl, fun f hf i hi => ?_⟩
  obtain ⟨d, e, h0, _⟩ := gen_odet h hf hi
  show 0 < CM.odet (gens (bandsOf z, ls)) f i
  rw [e]
  exact Rat.intCast_pos.mpr h0
theorem draw_pat {rs : List Rat} (h1 : 4 ≤ rs.length) (h2 : rs.length ≤ 7) (h : ∀ r ∈ rs, okQ r) : CM.patB rs = true ↔ ∀ f ∈ CM.fours rs.length, ∀ up, CM.okF rs f up = false :=
  CM.pat_iff h1 h2 fun r hr => ⟨(h r hr).1, (h r hr).2.1⟩
theorem color_eq (rs : List Rat) (gs : List CM.V3) : color rs gs = ⟨CM.seenAt (CM.cx gs) rs 0 rs.length, CM.seenAt (CM.cy gs) rs 0 rs.length, CM.seenAt (CM.cz gs) rs 0 rs.length⟩ := CM.vsum_eq rs gs rs.length
theorem half_at {rs ts : List Rat} {k : Nat} (hk : k < rs.length) : (half rs ts).getD k default = (rs.getD k default + ts.getD k default) * Rat.divInt 1 2 := by
  refine getD_some ?_
  unfold half
  rw [List.getElem?_map, List.getElem?_range hk]
  rfl
theorem half_len (rs ts : List Rat) : (half rs ts).length = rs.length := by
  unfold half
  rw [List.length_map, List.length_range]
theorem mid (x : Rat) : (x + x) * Rat.divInt 1 2 = x := by
  have e : Rat.divInt 1 2 = 1 / 2 := by decide +kernel
  rw [e]
  grind
theorem half_C {rs ts : List Rat} {gs : List CM.V3} (hl : ts.length = rs.length) (h : color rs gs = color ts gs) : color rs gs = color (half rs ts) gs := by
  rw [color_eq, color_eq, hl] at h
  rw [color_eq, color_eq, half_len]
  injection h with hx hy hz
  have hh : ∀ k, k < rs.length → (half rs ts).getD k default = (rs.getD k default + ts.getD k default) * Rat.divInt 1 2 := fun k hk => half_at hk
  rw [CM.seen_lin _ rs ts _ _ _ hh, CM.seen_lin _ rs ts _ _ _ hh, CM.seen_lin _ rs ts _ _ _ hh, ← hx, ← hy, ← hz, mid, mid, mid]
theorem half_R {rs ts : List Rat} (hl : ts.length = rs.length) (h1 : Refl rs) (h2 : Refl ts) : Refl (half rs ts) := by
  intro r hr
  obtain ⟨i, hi, rfl⟩ := List.mem_map.mp hr
  have hi := List.mem_range.mp hi
  have a := h1 _ (List.mem_of_getElem? (getD_at (as := rs) hi))
  have b := h2 _ (List.mem_of_getElem? (getD_at (as := ts) (i := i) (by omega)))
  generalize rs.getD i default = x at *
  generalize ts.getD i default = y at *
  have e : Rat.divInt 1 2 = 1 / 2 := by decide +kernel
  rw [e]
  constructor <;> grind
end
end Ly
set_option Elab.async false
set_option linter.all false
set_option maxRecDepth 100000
set_option maxHeartbeats 4000000
/-! What the law's end needs of plain mathematics: what is told is right. -/
namespace CM
theorem den_sub (p q : Rat) : (p - q).den ≤ p.den * q.den := by
  have h := divInt_den (t := p.num * (q.den : Int) - q.num * (p.den : Int)) (b := (p.den : Int) * (q.den : Int)) mulpos
  rw [q_sub] at h
  have : ((p - q).den : Int) ≤ (p.den : Int) * (q.den : Int) := by
    rw [h]
    exact Int.ediv_le_self _ (Int.le_of_lt mulpos)
  rw [← Int.natCast_mul] at this
  omega
theorem den_divI (p : Rat) {d : Int} (hd : 0 < d) : ((p / (d : Rat)).den : Int) ≤ (p.den : Int) * d := by
  have h := divInt_den (t := p.num * (((d : Rat)).den : Int)) (b := (p.den : Int) * ((d : Rat)).num) (Int.mul_pos (denpos p) hd)
  rw [q_div] at h
  rw [h]
  exact Int.ediv_le_self _ (Int.le_of_lt (Int.mul_pos (denpos p) hd))
def filt (n : Nat) : Bool := (fours n).all fun f => decide ((List.range n).filter (fun k => f.contains k) = f)
theorem filt_ok {n : Nat} (h1 : 4 ≤ n) (h2 : n ≤ 7) {f : List Nat} (h : f ∈ fours n) : (List.range n).filter (fun k => f.contains k) = f := by
  have q := n47 (P := fun n => filt n = true) (by decide +kernel) (by decide +kernel) (by decide +kernel) (by decide +kernel) n h1 h2
  exact of_decide_eq_true (List.all_eq_true.mp q f h)
theorem num_sign {q : Rat} (h : q < 0) : ¬ 0 < q.num := fun e => by
  have := Rat.num_nonneg.mp (Int.le_of_lt e)
  grind
end CM
namespace Ly
open PySem PySem.Spec PyProof.Rows L2
section
variable {z : List Int × List Int} {ls : List Int} {rs : List Rat}
theorem lit_at (h : Draw z ls rs) {k : Nat} (hk : k < rs.length) : (litAll (bandsOf z, ls)).getD k default = litB (bandOf z.1 z.2 k) (ls.getD k default) := by
  obtain ⟨n1, n2, n3, n4⟩ := h.len
  refine getD_some ?_
  unfold litAll
  rw [List.getElem?_map, List.getElem?_range (by show k < (bandsOf z).length; rw [blen]; omega)]
  show some (litB ((bandsOf z).getD k default) (ls.getD k default)) = _
  rw [getD_some (band_get z (by omega))]
theorem lit_len (h : Draw z ls rs) : (litAll (bandsOf z, ls)).length = rs.length := by
  obtain ⟨n1, n2, n3, n4⟩ := h.len
  unfold litAll
  rw [List.length_map, List.length_range]
  show (bandsOf z).length = _
  rw [blen]
  exact n1
theorem partQ_x (h : Draw z ls rs) {k : Nat} (hk : k < rs.length) : partQ (litAll (bandsOf z, ls)) k 0 = ((gens (bandsOf z, ls)).getD k default).x := by
  rw [gen_at h hk]
  unfold partQ
  rw [lit_at h hk]
  show ((z.2.getD k default * ls.getD k default : Int) : Rat) = ((ls.getD k default : Int) : Rat) * ((z.2.getD k default : Int) : Rat)
  rw [Rat.intCast_mul, Rat.mul_comm]
theorem partQ_y (h : Draw z ls rs) {k : Nat} (hk : k < rs.length) : partQ (litAll (bandsOf z, ls)) k 1 = ((gens (bandsOf z, ls)).getD k default).y := by
  rw [gen_at h hk]
  unfold partQ
  rw [lit_at h hk]
  show ((z.2.getD k default * z.1.getD k default * ls.getD k default : Int) : Rat) = ((ls.getD k default : Int) : Rat) * ((z.2.getD k default * z.1.getD k default : Int) : Rat)
  rw [Rat.intCast_mul, Rat.mul_comm]
theorem partQ_z (h : Draw z ls rs) {k : Nat} (hk : k < rs.length) : partQ (litAll (bandsOf z, ls)) k 2 = ((gens (bandsOf z, ls)).getD k default).z := by
  rw [gen_at h hk]
  unfold partQ
  rw [lit_at h hk]
  show ((z.2.getD k default * z.1.getD k default * z.1.getD k default * ls.getD k default : Int) : Rat) = ((ls.getD k default : Int) : Rat) * ((z.2.getD k default * z.1.getD k default * z.1.getD k default : Int) : Rat)
  rw [Rat.intCast_mul, Rat.mul_comm]
theorem lit_small (h : Draw z ls rs) : ∀ g ∈ litAll (bandsOf z, ls), ∀ j, (part g j).natAbs < 2 ^ 20 := by
  intro g hg j
  obtain ⟨n1, n2, n3, n4⟩ := h.len
  obtain ⟨i, hi, rfl⟩ := List.mem_map.mp hg
  have hi : i < (bandsOf z).length := List.mem_range.mp hi
  have hb := bands_okall h.t _ (List.mem_of_getElem? (getD_at (as := bandsOf z) hi))
  have hl := h.l2 _ (List.mem_of_getElem? (getD_at (as := ls) (i := i) (by rw [blen] at hi; omega)))
  show (part (litB ((bandsOf z).getD i default) (ls.getD i default)) j).natAbs < 1048576
  generalize (bandsOf z).getD i default = b at *
  generalize ls.getD i default = l at *
  obtain ⟨⟨x0, x1⟩, ⟨y0, y1⟩, z0, z1⟩ := hb
  obtain ⟨l0, l1⟩ := hl
  have m : ∀ c : Int, 0 ≤ c → c ≤ 100 → 0 ≤ c * l ∧ c * l ≤ 10000 := fun c h0 h1 => ⟨Int.mul_nonneg h0 (by omega), by
    have := Int.mul_le_mul h1 l1 (by omega) (by decide)
    omega⟩
  have mx := m b.x x0 x1
  have my := m b.y y0 y1
  have mz := m b.z z0 z1
  match j with
  | 0 => show (b.x * l).natAbs < 1048576; omega
  | 1 => show (b.y * l).natAbs < 1048576; omega
  | 2 => show (b.z * l).natAbs < 1048576; omega
  | k + 3 => show (0 : Int).natAbs < 1048576; decide
theorem draw_C (h : Draw z ls rs) {f : List Nat} {up : Bool} (hf : f ∈ CM.fours rs.length) (ho : CM.okF rs f up = true) : color rs (gens (bandsOf z, ls)) = color (CM.chg rs (gens (bandsOf z, ls)) f up) (gens (bandsOf z, ls)) := by
  obtain ⟨n1, n2, n3, n4⟩ := h.len
  obtain ⟨a, b, c, d, rfl, h1, h2, h3, h4⟩ := CM.fours_get n3 n4 hf
  rw [color_eq, color_eq, CM.chg_len]
  unfold CM.chg
  rw [CM.seen_chg (CM.cx _) h1 h2 h3 h4, CM.seen_chg (CM.cy _) h1 h2 h3 h4, CM.seen_chg (CM.cz _) h1 h2 h3 h4]
  · exact CM.cramer_z ((gens (bandsOf z, ls)).getD a default) ((gens (bandsOf z, ls)).getD b default) ((gens (bandsOf z, ls)).getD c default) ((gens (bandsOf z, ls)).getD d default)
  · exact CM.cramer_y ((gens (bandsOf z, ls)).getD a default) ((gens (bandsOf z, ls)).getD b default) ((gens (bandsOf z, ls)).getD c default) ((gens (bandsOf z, ls)).getD d default)
  · exact CM.cramer_x ((gens (bandsOf z, ls)).getD a default) ((gens (bandsOf z, ls)).getD b default) ((gens (bandsOf z, ls)).getD c default) ((gens (bandsOf z, ls)).getD d default)
theorem draw_S (h : Draw z ls rs) {f : List Nat} {up : Bool} (hf : f ∈ CM.fours rs.length) : seenL (litAll (bandsOf z, ls), CM.chg rs (gens (bandsOf z, ls)) f up) rs.length = seenL (litAll (bandsOf z, ls), rs) rs.length := by
  obtain ⟨n1, n2, n3, n4⟩ := h.len
  obtain ⟨a, b, c, d, rfl, h1, h2, h3, h4⟩ := CM.fours_get n3 n4 hf
  have e0 := CM.cramer_x ((gens (bandsOf z, ls)).getD a default) ((gens (bandsOf z, ls)).getD b default) ((gens (bandsOf z, ls)).getD c default) ((gens (bandsOf z, ls)).getD d default)
  have e1 := CM.cramer_y ((gens (bandsOf z, ls)).getD a default) ((gens (bandsOf z, ls)).getD b default) ((gens (bandsOf z, ls)).getD c default) ((gens (bandsOf z, ls)).getD d default)
  have e2 := CM.cramer_z ((gens (bandsOf z, ls)).getD a default) ((gens (bandsOf z, ls)).getD b default) ((gens (bandsOf z, ls)).getD c default) ((gens (bandsOf z, ls)).getD d default)
  rw [← partQ_x h (show a < rs.length by omega), ← partQ_x h (show b < rs.length by omega), ← partQ_x h (show c < rs.length by omega), ← partQ_x h h4] at e0
  rw [← partQ_y h (show a < rs.length by omega), ← partQ_y h (show b < rs.length by omega), ← partQ_y h (show c < rs.length by omega), ← partQ_y h h4] at e1
  rw [← partQ_z h (show a < rs.length by omega), ← partQ_z h (show b < rs.length by omega), ← partQ_z h (show c < rs.length by omega), ← partQ_z h h4] at e2
  have s0 := CM.seen_chg (partQ (litAll (bandsOf z, ls))) h1 h2 h3 h4 (CM.dets (gens (bandsOf z, ls)) [a, b, c, d]) (CM.stepOf (CM.rooms rs [a, b, c, d] up) (CM.dets (gens (bandsOf z, ls)) [a, b, c, d])) up 0 e0
  have s1 := CM.seen_chg (partQ (litAll (bandsOf z, ls))) h1 h2 h3 h4 (CM.dets (gens (bandsOf z, ls)) [a, b, c, d]) (CM.stepOf (CM.rooms rs [a, b, c, d] up) (CM.dets (gens (bandsOf z, ls)) [a, b, c, d])) up 1 e1
  have s2 := CM.seen_chg (partQ (litAll (bandsOf z, ls))) h1 h2 h3 h4 (CM.dets (gens (bandsOf z, ls)) [a, b, c, d]) (CM.stepOf (CM.rooms rs [a, b, c, d] up) (CM.dets (gens (bandsOf z, ls)) [a, b, c, d])) up 2 e2
  show [CM.seenAt _ (CM.chg rs (gens (bandsOf z, ls)) [a, b, c, d] up) 0 rs.length, CM.seenAt _ (CM.chg rs (gens (bandsOf z, ls)) [a, b, c, d] up) 1 rs.length, CM.seenAt _ (CM.chg rs (gens (bandsOf z, ls)) [a, b, c, d] up) 2 rs.length] = [_, _, _]
  unfold CM.chg
  rw [s0, s1, s2]
end
end Ly
set_option Elab.async false
set_option linter.all false
set_option maxRecDepth 100000
set_option maxHeartbeats 4000000
/-! What is told is right. -/
namespace Ly
open PySem PySem.Spec PyProof.Rows L2
section
variable {z : List Int × List Int} {ls : List Int} {rs : List Rat}
/-- the change, place by place -/
theorem chg_in (h : Draw z ls rs) (gs : List CM.V3) {f : List Nat} {up : Bool} (hf : f ∈ CM.fours rs.length) {i : Nat} (hi : i < 4) : (CM.chg rs gs f up).getD (f.getD i 0) default = CM.mv (rs.getD (f.getD i 0) default) (CM.stepOf (CM.rooms rs f up) (CM.dets gs f)) (CM.odet gs f i) (up == CM.evn i) := by
  obtain ⟨n1, n2, n3, n4⟩ := h.len
  obtain ⟨a, b, c, d, rfl, h1, h2, h3, h4⟩ := CM.fours_get n3 n4 hf
  unfold CM.chg
  rw [CM.chg_val h1 h2 h3 h4]
  have cases4 : i = 0 ∨ i = 1 ∨ i = 2 ∨ i = 3 := by omega
  rcases cases4 with e | e | e | e <;> subst e
  · show (if a = d then _ else if a = c then _ else if a = b then _ else if a = a then _ else _) = _
    rw [if_neg (by omega), if_neg (by omega), if_neg (by omega), if_pos rfl]
    rfl
  · show (if b = d then _ else if b = c then _ else if b = b then _ else _) = _
    rw [if_neg (by omega), if_neg (by omega), if_pos rfl]
    rfl
  · show (if c = d then _ else if c = c then _ else _) = _
    rw [if_neg (by omega), if_pos rfl]
    rfl
  · show (if d = d then _ else _) = _
    rw [if_pos rfl]
    rfl
theorem chg_out (h : Draw z ls rs) (gs : List CM.V3) {f : List Nat} {up : Bool} (hf : f ∈ CM.fours rs.length) {k : Nat} (hk : k ∉ f) : (CM.chg rs gs f up).getD k default = rs.getD k default := by
  obtain ⟨n1, n2, n3, n4⟩ := h.len
  obtain ⟨a, b, c, d, rfl, h1, h2, h3, h4⟩ := CM.fours_get n3 n4 hf
  unfold CM.chg
  rw [CM.chg_val h1 h2 h3 h4]
  simp only [List.mem_cons, List.not_mem_nil, or_false, not_or] at hk
  rw [if_neg hk.2.2.2, if_neg hk.2.2.1, if_neg hk.2.1, if_neg hk.1]
theorem four_mem {n : Nat} (h1 : 4 ≤ n) (h2 : n ≤ 7) {f : List Nat} (hf : f ∈ CM.fours n) : f.length = 4 ∧ ∀ k, k ∈ f → ∃ i, i < 4 ∧ k = f.getD i 0 := by
  obtain ⟨a, b, c, d, rfl, _⟩ := CM.fours_get h1 h2 hf
  refine ⟨rfl, fun k hk => ?_⟩
  simp only [List.mem_cons, List.not_mem_nil, or_false] at hk
  rcases hk with e | e | e | e
  · exact ⟨0, by decide, e⟩
  · exact ⟨1, by decide, e⟩
  · exact ⟨2, by decide, e⟩
  · exact ⟨3, by decide, e⟩
theorem room_den {r : Rat} {u : Bool} : (CM.room r u).den ≤ r.den := by
  cases u with
  | true =>
    show (1 - r).den ≤ r.den
    have := CM.den_sub 1 r
    have e : (1 : Rat).den = 1 := rfl
    rw [e, Nat.one_mul] at this
    exact this
  | false => exact Nat.le_refl _
theorem mv_room {r s d : Rat} {u : Bool} (h0 : 0 ≤ r) (h1 : r ≤ 1) (hs : 0 < s * d) (hr : s * d ≤ CM.room r u) : 0 ≤ CM.mv r s d u ∧ CM.mv r s d u ≤ 1 := by
  generalize hx : s * d = x at *
  cases u with
  | true =>
    have hr : x ≤ 1 - r := hr
    show 0 ≤ r + s * d ∧ r + s * d ≤ 1
    rw [hx]
    constructor <;> grind
  | false =>
    have hr : x ≤ r := hr
    show 0 ≤ r - s * d ∧ r - s * d ≤ 1
    rw [hx]
    constructor <;> grind
theorem mv_den {r s d : Rat} {u : Bool} : (CM.mv r s d u).den ≤ r.den * (s * d).den := by
  cases u with
  | true => exact CM.den_add r (s * d)
  | false => exact CM.den_sub r (s * d)
theorem mv_edge {r s d : Rat} {u : Bool} (h : s * d = CM.room r u) : CM.mv r s d u = 0 ∨ CM.mv r s d u = 1 := by
  cases u with
  | true =>
    refine .inr ?_
    show r + s * d = 1
    rw [h]
    show r + (1 - r) = 1
    grind
  | false =>
    refine .inl ?_
    show r - s * d = 0
    rw [h]
    show r - r = 0
    grind
theorem mv_gap {r s d : Rat} {u : Bool} (h : 0 < s * d) : ¬ (CM.mv r s d u - r).num = 0 ∧ decide (0 < (CM.mv r s d u - r).num) = u := by
  generalize hx : s * d = x at *
  cases u with
  | true =>
    have e : CM.mv r s d true - r = x := by
      show r + s * d - r = x
      rw [hx]
      grind
    rw [e]
    have := CM.numpos h
    exact ⟨by omega, decide_eq_true this⟩
  | false =>
    have e : CM.mv r s d false - r = -x := by
      show r - s * d - r = -x
      rw [hx]
      grind
    rw [e]
    have neg : -x < 0 := by grind
    have := CM.num_sign neg
    refine ⟨fun e0 => ?_, decide_eq_false this⟩
    rw [Rat.num_eq_zero] at e0
    grind
theorem unit_bd {n : Nat} {q : Rat} (h0 : 0 ≤ q) (h1 : q ≤ 1) (hd : q.den < 2 ^ n) : CM.Bd n q := by
  have n0 := Rat.num_nonneg.mpr h0
  have h1 := (Rat.le_iff _ _).mp h1
  have h1 : q.num ≤ (q.den : Int) := by simpa using h1
  exact ⟨by omega, hd⟩
theorem draw_R (h : Draw z ls rs) {f : List Nat} {up : Bool} (hf : f ∈ CM.fours rs.length) (ho : CM.okF rs f up = true) : CondR ((litAll (bandsOf z, ls), rs), 457, CM.chg rs (gens (bandsOf z, ls)) f up) := by
  obtain ⟨n1, n2, n3, n4⟩ := h.len
  obtain ⟨l4, fm⟩ := four_mem n3 n4 hf
  have cin := fun i hi => chg_in h (gens (bandsOf z, ls)) (up := up) hf (i := i) hi
  have cout := fun k hk => chg_out h (gens (bandsOf z, ls)) (up := up) hf (k := k) hk
  have clen := CM.chg_len rs (gens (bandsOf z, ls)) f up
  have dS := draw_S h (up := up) hf
  obtain ⟨s0, sle, m, hm, sm, sdm⟩ := CM.step_spec (fun i => CM.room (rs.getD (f.getD i 0) default) (up == CM.evn i)) (CM.odet (gens (bandsOf z, ls)) f) (s := CM.stepOf (CM.rooms rs f up) (CM.dets (gens (bandsOf z, ls)) f)) (fun i hi => by
      have := List.all_eq_true.mp ho _ (List.mem_of_getElem? (rooms_get (rs := rs) (f := f) (up := up) hi))
      exact of_decide_eq_true this) (fun i hi => by
      obtain ⟨d, e, h0, _⟩ := gen_odet h hf hi
      rw [e]
      exact Rat.intCast_pos.mpr h0) rfl
  generalize CM.stepOf (CM.rooms rs f up) (CM.dets (gens (bandsOf z, ls)) f) = s at *
  generalize hts : CM.chg rs (gens (bandsOf z, ls)) f up = ts at *
  have flt := CM.getD_lt n3 n4 hf
  have rget : ∀ k, k < rs.length → okQ (rs.getD k default) := fun k hk => h.r2 _ (List.mem_of_getElem? (getD_at hk))
  have sd : ∀ i, i < 4 → 0 < s * CM.odet (gens (bandsOf z, ls)) f i := fun i hi => by
    obtain ⟨d, e, h0, _⟩ := gen_odet h hf hi
    rw [e]
    exact Rat.mul_pos s0 (Rat.intCast_pos.mpr h0)
  have sden : ∀ i, i < 4 → (s * CM.odet (gens (bandsOf z, ls)) f i).den ≤ 3600 * 8000000000 := fun i hi => by
    obtain ⟨d, e, h0, _⟩ := gen_odet h hf hi
    obtain ⟨dm, em, hm0, hm1⟩ := gen_odet h hf hm
    have r1 := CM.den_mul s (CM.odet (gens (bandsOf z, ls)) f i)
    rw [e, show ((d : Rat)).den = 1 from rfl, Nat.mul_one] at r1
    rw [e]
    have r2 := CM.den_divI (CM.room (rs.getD (f.getD m 0) default) (up == CM.evn m)) hm0
    rw [← em, ← sdm] at r2
    have r3 : (CM.room (rs.getD (f.getD m 0) default) (up == CM.evn m)).den ≤ 3600 := Nat.le_trans room_den (rget _ (flt m)).2.2
    have r4 : ((CM.room (rs.getD (f.getD m 0) default) (up == CM.evn m)).den : Int) * dm ≤ 3600 * 8000000000 := Int.mul_le_mul (by omega) hm1 (by omega) (by decide)
    omega
  -- each value: within its room, of small bottom
  have vals : ∀ k, k < rs.length → (0 ≤ ts.getD k default ∧ ts.getD k default ≤ 1) ∧ (ts.getD k default).den < 2 ^ 57 := fun k hk => by
    by_cases hk2 : k ∈ f
    · obtain ⟨i, hi, e⟩ := fm k hk2
      rw [e, cin i hi]
      obtain ⟨q0, q1, q2⟩ := rget _ (flt i)
      refine ⟨mv_room q0 q1 (sd i hi) (sle i hi), ?_⟩
      have := Nat.le_trans mv_den (Nat.mul_le_mul q2 (sden i hi)) (n := (CM.mv (rs.getD (f.getD i 0) default) s (CM.odet (gens (bandsOf z, ls)) f i) (up == CM.evn i)).den)
      exact Nat.lt_of_le_of_lt this (by decide)
    · rw [cout k hk2]
      obtain ⟨q0, q1, q2⟩ := rget k hk
      exact ⟨⟨q0, q1⟩, Nat.lt_of_le_of_lt q2 (by decide)⟩
  have mem : ∀ t ∈ ts, ∃ k, k < rs.length ∧ t = ts.getD k default := fun t ht => by
    obtain ⟨k, hk, e⟩ := List.mem_iff_getElem.mp ht
    refine ⟨k, by omega, ?_⟩
    rw [List.getD_eq_getElem?_getD, List.getElem?_eq_getElem hk, ← e]
    rfl
  have gapf : ∀ i, i < 4 → ¬ gapAt rs ts (f.getD i 0) = 0 ∧ decide (0 < gapAt rs ts (f.getD i 0)) = (up == CM.evn i) := fun i hi => by
    unfold gapAt
    rw [cin i hi]
    exact mv_gap (sd i hi)
  have ech : chgd rs ts = f := by
    have e1 : chgd rs ts = (List.range rs.length).filter fun k => f.contains k := by
      unfold chgd
      refine List.filter_congr fun k hk => ?_
      by_cases hk2 : k ∈ f
      · obtain ⟨i, hi, e⟩ := fm k hk2
        have := (gapf i hi).1
        rw [← e] at this
        rw [decide_eq_false this, List.contains_iff_mem.mpr hk2]
        rfl
      · have g0 : gapAt rs ts k = 0 := by
          unfold gapAt
          rw [cout k hk2, Rat.num_eq_zero]
          grind
        rw [decide_eq_true g0]
        have : f.contains k = false := by
          cases hc : f.contains k with
          | false => rfl
          | true => exact absurd (List.contains_iff_mem.mp hc) hk2
        rw [this]
        rfl
    rw [e1]
    exact CM.filt_ok n3 n4 hf
  refine ⟨clen, ⟨lit_len h, n4, fun r hr => (draw_bd h.r2 r hr).mono (by decide), lit_small h⟩, ⟨?_, ?_, fun t ht => ?_, lit_small h⟩, fun t ht => ?_, ?_, fun i hi => ?_, ?_, ?_⟩
  · show (litAll (bandsOf z, ls)).length = ts.length
    rw [lit_len h, clen]
  · show ts.length ≤ 7
    omega
  · obtain ⟨k, hk, e⟩ := mem t ht
    obtain ⟨⟨q0, q1⟩, q2⟩ := vals k hk
    rw [e]
    exact unit_bd q0 q1 q2
  · obtain ⟨k, hk, e⟩ := mem t ht
    rw [e]
    exact (vals k hk).1
  · show (chgd rs ts).length = 4
    rw [ech, l4]
  · show (decide (0 < gapAt rs ts ((chgd rs ts).getD i 0)) == decide (0 < gapAt rs ts ((chgd rs ts).getD (i + 1) 0))) = false
    rw [ech, (gapf i (by omega)).2, (gapf (i + 1) (by omega)).2]
    have cases3 : i = 0 ∨ i = 1 ∨ i = 2 := by omega
    rcases cases3 with e | e | e <;> subst e <;> cases up <;> rfl
  · refine ⟨f.getD m 0, ?_, ?_⟩
    · show f.getD m 0 ∈ chgd rs ts
      rw [ech, List.getD_eq_getElem?_getD, List.getElem?_eq_getElem (by omega)]
      exact List.getElem_mem _
    · show ts.getD (f.getD m 0) default = 0 ∨ ts.getD (f.getD m 0) default = 1
      rw [cin m hm]
      exact mv_edge sm
  · show seenL (litAll (bandsOf z, ls), ts) (litAll (bandsOf z, ls)).length = seenL (litAll (bandsOf z, ls), rs) (litAll (bandsOf z, ls)).length
    rw [lit_len h]
    exact dS
end
end Ly
set_option Elab.async false
set_option linter.all false
set_option maxRecDepth 100000
set_option maxHeartbeats 0
/-! The head's run. -/
namespace Ly
open PySem PySem.Spec PyProof.Rows L2
def hk : PySem.W.Hook where
  α := Bool × He.Al
  obs := fun s => obsM 5 s.heap.get?
  val := fun _ => (true, He.valE fn)
  says := fun _ h => ∃ K : PySem.W.Frag, K.In h ∧ SaysM K
  of := fun _ _ e => ⟨_, He.frG_in, e⟩
  keeps := fun _ _ _ ⟨K, inH, c⟩ kp => ⟨K, PySem.W.Frag.In.keeps inH kp, c⟩
def ob (s : PySem.W.SharedT) : Bool × He.Al := obsM 5 (HandSHeadRun.getT s)
theorem ob_eq (s : PySem.W.SharedT) : ob s = hk.obs s.abs := by
  have e : HandSHeadRun.getT s = s.abs.heap.get? := funext (HandSHeadRun.getT_eq s)
  unfold ob
  rw [e] <;> rfl
theorem run (w : World) : HandSHeadRun.RunEq Rw (PySem.W.view Rw.prog [64]) hk ob 20000 loose w := by
  intro os
  kernel_rfl
end Ly
set_option Elab.async false
set_option linter.all false
set_option maxRecDepth 100000
set_option maxHeartbeats 4000000
/-! The law. -/
namespace Ly
open PySem PySem.Spec PyProof.Rows L2
section
variable {R : Hp → Hp → Prop} {X : Cx} {σ : SS} {H H' : Hp} {P P' Pa Pb Pc : HF} {D : Ends} [Rel R] {e elt iter a b c : Expr} {es : List Expr} {pos p p2 pos' apos : Pos} {x : Str} {u : V}
theorem ev_isNone {j : Nat} (ha : EV R X a σ H (isV u)) : EV R X (.Compare a [.Is] [.Constant .none j p2] pos) σ H (isB (decide (u = .non))) :=
  ev_cmp op_isN ha ev_non (fun x y H1 r px py Q q => by
    cases px; cases py
    exact ⟨rfl, q _ _ (Rel.rf _) rfl⟩)
theorem et_notNone {j : Nat} (ha : EV R X a σ H (isV u)) : ET R X (.Compare a [.IsNot] [.Constant .none j p2] pos) σ H (· = !decide (u = .non)) :=
  et_cmp op_notN ha ev_non (fun x y H1 r px py Q q => by
    cases px; cases py
    exact ⟨rfl, q _ _ (Rel.rf _) ⟨_, rfl, rfl⟩⟩)
theorem ev_noneT {j : Nat} (ha : EV R X a σ H (isV .non)) : EV R X (.Compare a [.Is] [.Constant .none j p2] pos) σ H (isB true) := ev_isNone ha
theorem ev_noneF {j : Nat} {ad : Addr} (ha : EV R X a σ H (isV (.ref ad))) : EV R X (.Compare a [.Is] [.Constant .none j p2] pos) σ H (isB false) := ev_is (ev_isNone ha) (by simp)
theorem et_notT {j : Nat} {ad : Addr} (ha : EV R X a σ H (isV (.ref ad))) : ET R X (.Compare a [.IsNot] [.Constant .none j p2] pos) σ H (· = true) := et_is (et_notNone ha) (by simp)
theorem et_notF {j : Nat} (ha : EV R X a σ H (isV .non)) : ET R X (.Compare a [.IsNot] [.Constant .none j p2] pos) σ H (· = false) := et_is (et_notNone ha) (by simp)
end
section
variable {Pg : Program} {w : World} {K : PySem.W.Frag} {mg : Str → Option Value} {base : Heap}
/-- mkDef, the function object named first -/
theorem mkFn {x q : Str} {st : Stmt} {N ps : List Str} {k : Nat} {α : Type} {pars : α → List HF} {cond : α → Prop} {res : α → HF} {f : Addr} {fd : FuncData} (F : Fun K x q st f fd) (S : FnScope N ps (defScope st)) (hl : ∀ a, (pars a).length = ps.length)
    (body : ∀ (cdv : Value) (A : Around) (outer : List Env) (s : Shared) (H : Hp) (vs : List V) (Q : VK) (E : XK) (a : α), Room k (A.deeper (envOfC q (defScope st) s.heap.objs.size f cdv)) → Fit (pars a) vs H → cond a → (∀ v H1, res a v H1 → Q v H1) →
      RSs (cxOf CX0 Pg w K mg base N q (defScope st) f cdv A outer s H E).nox (defBody st) { nx := fun _ H' => Q .non H', rt := Q } (start N vs) H) : FnOk Pg w K mg base CX0 (k + 1) f fd ps (fun vs H Q _ => ∃ a, Fit (pars a) vs H ∧ cond a ∧ ∀ v H1, res a v H1 → Q v H1) := by
  refine F.ok S (fun vs H Q E h => ?_) (fun cdv A outer s H vs Q E hr h => ?_)
  · obtain ⟨a, f, _⟩ := h
    rw [f.len, hl]
  · obtain ⟨a, fit, hc, k⟩ := h
    exact ⟨_, pss_rs, body cdv A outer s H vs Q E a hr fit hc k⟩
abbrev nLaw : List Str := ["_law_script", "_law_stream_here", "_law_turn", "_law_bands_here", "_law_lamp_here", "_law_view", "_law_shares_here", "_law_handed", "_law_told", "_law_between", "_law_k"]
theorem scLaw : FnScope nLaw ["_law_script"] (defScope slaw) := ⟨rfl, rfl, rfl, by decide +kernel, rfl, by decide +kernel, by decide +kernel⟩
abbrev spLaw (K : PySem.W.Frag) : Sp := fun vs H Q _ => ∃ ns : List Int, Fit [isScr K ns] vs H ∧ ns.length ≤ 63 ∧ ∀ v H1, isB true v H1 → Q v H1
theorem ok_law (T : Tx K mg) {fd : FuncData} (F : Fun K "law" "law" slaw (He.ga K "law") fd) : FnOk Pg w K mg base CX0 11 (He.ga K "law") fd ["_law_script"] (spLaw K) := by
  refine mkFn (pars := fun ns : List Int => [isScr K ns]) (cond := fun ns => ns.length ≤ 63) (res := fun _ => isB true) F scLaw (fun _ => rfl) fun cdv A outer s H vs Q E ns hr fit hc k => ?_
  obtain ⟨x, rfl, hx⟩ := fit1 fit
  have hx : isScr K ns x H := hx
  refine b_set (R := Same) 1 (ev_call (ok_Lstream T) (hr.mono (by decide)) ns hc (ea_cons (ev_var 0 rfl hx) (ea_cons ev_int (ea_cons ev_int ea_nil)))) (fun st H1 s1 pv => ?_) scLaw.nd
  obtain ⟨pl, pst⟩ := pv
  refine b_forR1 (R := Same) 2 ev_int (by decide) T.n_range (fun i σ H2 => ∃ a b c d e f g h, σ = [some x, some st, a, b, c, d, e, f, g, h, none] ∧ isStr pl st H2) (fun H2 s2 => ⟨_, _, _, _, _, _, _, _, rfl, Mo.mo (R := Same) s2 pst⟩) (fun i σ H2 hi hW => ?_) (fun σ H2 hW => ?_) scLaw.nd PassesOwn.never
  · obtain ⟨_, b, c, d, e, f, g, h, rfl, pst⟩ := hW
    -- the bands
    refine b_set (R := But pl) 3 (ev_callD (ok_Lbands T) (hr.mono (by decide)) pl trivial (ea_cons (ev_var 1 rfl pst) ea_nil)) (fun vb H3 s3 pvb => ?_) scLaw.nd
    obtain ⟨z, hz, pvb⟩ := pvb
    have pst := Mo.mo (R := But pl) s3 pst
    obtain ⟨n4, n7⟩ := bands_len hz
    -- the lamp
    refine b_set (R := But pl) 4 (ev_callD (ok_Llamp T) (hr.mono (by decide)) (pl, (bandsOf z).length) n7 (ea_cons (ev_var 1 rfl pst) (ea_cons (ev_lenT T.n_len (ev_var 3 rfl pvb)) ea_nil))) (fun vl H4 s4 pvl => ?_) scLaw.nd
    obtain ⟨ls, ⟨hl1, hl2⟩, pvl⟩ := pvl
    have hl1 : ls.length = (bandsOf z).length := hl1
    have s4 : But pl H3 H4 := s4
    have pst := Mo.mo (R := But pl) s4 pst
    have pvb := Mo.mo (R := But pl) s4 pvb
    have pvl : tupOf isI ls vl H4 := pvl
    have cV' : condV (bandsOf z, ls) := ⟨hl1.symm, by show ls.length ≤ 7; omega, hl2⟩
    -- the view
    refine b_set (R := Same) 5 (P := isView K (bandsOf z, ls)) (ev_new (ok_View T) (hr.mono (by decide)) (bandsOf z, ls) cV' (fun P hP => ?_) (ea_cons (ev_new (ok_Obs T) (hr.mono (by decide)) (bandsOf z) (bands_ok hz) (fun P hP => ?_) (ea_cons (ev_var 3 rfl pvb) ea_nil)) (ea_cons (ev_var 4 rfl pvl) ea_nil))) (fun vw H5 s5 pvw => ?_) scLaw.nd
    · rcases List.mem_cons.mp hP with e | hP
      · rw [e]; infer_instance
      · rw [List.mem_singleton.mp hP]; infer_instance
    · rw [List.mem_singleton.mp hP]; infer_instance
    have pst := Mo.mo (R := Same) s5 pst
    have pvb := Mo.mo (R := Same) s5 pvb
    have pvl := Mo.mo (R := Same) s5 pvl
    -- the shares
    refine b_set (R := But pl) 6 (ev_callD (ok_Lshares T) (hr.mono (by decide)) (pl, (bandsOf z).length) n7 (ea_cons (ev_var 1 rfl pst) (ea_cons (ev_lenT T.n_len (ev_var 3 rfl pvb)) ea_nil))) (fun vs H6 s6 pvs => ?_) scLaw.nd
    have s6 : But pl H5 H6 := s6
    have pvs : isSh pl (bandsOf z).length vs H6 := pvs
    have pst := Mo.mo (R := But pl) s6 pst
    have pvb := Mo.mo (R := But pl) s6 pvb
    have pvl := Mo.mo (R := But pl) s6 pvl
    have pvw := Mo.mo (R := But pl) s6 pvw
    refine b_whenJ (R := But pl) (fun σ H7 => ∃ v, σ = [some x, some st, some (.int (i : Int)), some vb, some vl, some vw, some v, f, g, h, none] ∧ isSh pl (bandsOf z).length v H7 ∧ But pl H6 H7) (t := fun _ => True) (et_eqp (p := fun _ => True) (q := fun _ => True) (ev_ipp (ev_next T (hr.mono (by decide)) (by decide) (ev_var 1 rfl pst) ev_int) fun _ _ => trivial) (ev_ii ev_int trivial) (fun _ _ _ _ => trivial)) (fun _ H7 s7 => ?_) (fun _ H7 s7 => ⟨vs, rfl, Mo.mo (R := But pl) s7 pvs, s7⟩) (fun σ7 H7 h7 => ?_)
    · have pst := Mo.mo (R := But pl) s7 pst
      have pvb := Mo.mo (R := But pl) s7 pvb
      exact b_set (R := But pl) 6 (ev_callD (ok_Lpattern T) (hr.mono (by decide)) (pl, (bandsOf z).length) ⟨n4, n7⟩ (ea_cons (ev_var 1 rfl pst) (ea_cons (ev_lenT T.n_len (ev_var 3 rfl pvb)) ea_nil))) (fun v H8 s8 pv => RSs.nil ⟨v, rfl, pv, Rel.tr s7 s8⟩) scLaw.nd
    obtain ⟨v6, rfl, ⟨rs, ⟨hr1, hr2⟩, pvs⟩, s7⟩ := h7
    have pst := Mo.mo (R := But pl) s7 pst
    have pvb := Mo.mo (R := But pl) s7 pvb
    have pvl := Mo.mo (R := But pl) s7 pvl
    have pvw := Mo.mo (R := But pl) s7 pvw
    have pvs := pvs.of
    have dr : Draw z ls rs := ⟨hz, hl1, hl2, hr1, hr2⟩
    have rfs : Refl rs := fun r hr => ⟨(hr2 r hr).1, (hr2 r hr).2.1⟩
    have hr1 : rs.length = (bandsOf z).length := hr1
    clear s7 s6 s5 s4 s3
    -- the quotients
    refine b_set (R := Same) 7 (ev_call (ok_Lquots T) (hr.mono (by decide)) rs ⟨by rw [hr1]; exact n7, draw_bd hr2⟩ (ea_cons (ev_var 6 rfl pvs) ea_nil)) (fun vq H8 s8 pvq => ?_) scLaw.nd
    have pst := Mo.mo (R := Same) s8 pst
    have pvb := Mo.mo (R := Same) s8 pvb
    have pvl := Mo.mo (R := Same) s8 pvl
    have pvw := Mo.mo (R := Same) s8 pvw
    have pvs := Mo.mo (R := Same) s8 pvs
    have pvq : tupOf (isQ (cQ K) 12) rs vq H8 := pvq
    -- what is told
    refine b_set (R := Same) 8 (P := isTold K ((bandsOf z, ls), 12, rs)) (ev_call (ok_other T) (hr.mono (by decide)) ((bandsOf z, ls), 12, rs) (draw_M dr) (ea_cons (ev_var 5 rfl pvw) (ea_cons (ev_var 7 rfl pvq) ea_nil))) (fun vt H9 s9 pvt => ?_) scLaw.nd
    have pst := Mo.mo (R := Same) s9 pst
    have pvb := Mo.mo (R := Same) s9 pvb
    have pvl := Mo.mo (R := Same) s9 pvl
    have pvw := Mo.mo (R := Same) s9 pvw
    have pvs := Mo.mo (R := Same) s9 pvs
    have pvq := Mo.mo (R := Same) s9 pvq
    have hpat := draw_pat (by rw [hr1]; exact n4) (by rw [hr1]; exact n7) hr2
    have ispat : ∀ {X : Cx}, True := trivial
    rcases pvt with ⟨rfl, hno⟩ | ⟨f4, up, hf4, hok, pvt⟩
    · -- None
      have e := hpat.mpr hno
      refine b_when (R := Same) (t := (· = false)) (et_is (et_ne (u := .bl true) (v := .bl true) (ev_noneT (ev_vv 8 rfl)) (ev_is (ev_call (ok_Lispat T) (hr.mono (by decide)) rs (by show rs.length ≤ 7; omega) (ea_cons (ev_var 6 rfl pvs) ea_nil)) (by rw [e]))) (by decide)) (fun ht => by cases ht) (fun _ H10 s10 => ?_)
      refine b_when (R := Same) (t := (· = false)) (et_notF (ev_vv 8 rfl)) (fun ht => by cases ht) (fun _ H11 s11 => RSs.nil ?_)
      exact ⟨_, _, _, _, _, _, _, _, rfl, Mo.mo (R := Same) (s10.trans s11) pst⟩
    · -- another match
      have pvt : tupOf (isQ (cQ K) 457) (CM.chg rs (gens (bandsOf z, ls)) f4 up) vt H9 := pvt
      have hf4 : f4 ∈ CM.fours rs.length := hf4
      have hok : CM.okF rs f4 up = true := hok
      have cr := draw_R dr hf4 hok
      have cc := draw_C dr hf4 hok
      generalize CM.chg rs (gens (bandsOf z, ls)) f4 up = ts at cr cc pvt
      have tl : ts.length = rs.length := cr.len
      have e : CM.patB rs = false := by
        cases hb : CM.patB rs with
        | false => rfl
        | true =>
          have := hpat.mp hb f4 hf4 up
          rw [hok] at this
          cases this
      obtain ⟨at1, xt, rfl, hat1, qt⟩ := id pvt
      refine b_when (R := Same) (t := (· = false)) (et_is (et_ne (u := .bl false) (v := .bl false) (ev_noneF (ev_vv 8 rfl)) (ev_is (ev_call (ok_Lispat T) (hr.mono (by decide)) rs (by show rs.length ≤ 7; omega) (ea_cons (ev_var 6 rfl pvs) ea_nil)) (by rw [e]))) (by decide)) (fun ht => by cases ht) (fun _ H10 s10 => ?_)
      have pst := Mo.mo (R := Same) s10 pst
      have pvb := Mo.mo (R := Same) s10 pvb
      have pvl := Mo.mo (R := Same) s10 pvl
      have pvw := Mo.mo (R := Same) s10 pvw
      have pvs := Mo.mo (R := Same) s10 pvs
      have pvq := Mo.mo (R := Same) s10 pvq
      have pvt := Mo.mo (R := Same) s10 pvt
      have cC1 : condC ((bandsOf z, ls), 12, rs) := ⟨by show ls.length = rs.length; omega, by show rs.length ≤ 7; omega, by show 12 ≤ 1100; decide, rfs⟩
      have cC2 : condC ((bandsOf z, ls), 457, ts) := ⟨by show ls.length = ts.length; omega, by show ts.length ≤ 7; omega, by show 457 ≤ 1100; decide, cr.refl⟩
      have cC3 : condC ((bandsOf z, ls), 472, half rs ts) := ⟨by show ls.length = (half rs ts).length; unfold half; rw [List.length_map, List.length_range]; omega, by show (half rs ts).length ≤ 7; unfold half; rw [List.length_map, List.length_range]; omega, by show 472 ≤ 1100; decide, half_R tl rfs cr.refl⟩
      refine b_when (R := Same) (t := (· = true)) (et_notT (ad := at1) (ev_vv 8 rfl)) (fun _ H11 s11 => ?_) (fun ht => by cases ht)
      have pst := Mo.mo (R := Same) s11 pst
      have pvb := Mo.mo (R := Same) s11 pvb
      have pvl := Mo.mo (R := Same) s11 pvl
      have pvw := Mo.mo (R := Same) s11 pvw
      have pvs := Mo.mo (R := Same) s11 pvs
      have pvq := Mo.mo (R := Same) s11 pvq
      have pvt := Mo.mo (R := Same) s11 pvt
      refine b_when (R := Same) (et_or2 (et_nt (et_vt (ev_call (ok_Lright T) (hr.mono (by decide)) ((litAll (bandsOf z, ls), rs), 457, ts) cr (ea_cons (ev_call (ok_Lgens T) (hr.mono (by decide)) (bandsOf z, ls) ⟨by show (bandsOf z).length = ls.length; omega, n7, (bands_ok hz).2.2.1⟩ (ea_cons (ev_var 3 rfl pvb) (ea_cons (ev_var 4 rfl pvl) ea_nil))) (ea_cons (ev_var 6 rfl pvs) (ea_cons (ev_var 8 rfl pvt) ea_nil)))) rfl))
        (et_nt (et_vt (ev_call (ok_match T) (hr.mono (by decide)) ((bandsOf z, ls), (12, rs), (457, ts)) ⟨cC1, cC2, cc⟩ (ea_cons (ev_var 5 rfl pvw) (ea_cons (ev_var 7 rfl pvq) (ea_cons (ev_var 8 rfl pvt) ea_nil)))) rfl))) (fun ht => by cases ht) (fun _ H12 s12 => ?_)
      have pst := Mo.mo (R := Same) s12 pst
      have pvb := Mo.mo (R := Same) s12 pvb
      have pvw := Mo.mo (R := Same) s12 pvw
      have pvq := Mo.mo (R := Same) s12 pvq
      have pvt := Mo.mo (R := Same) s12 pvt
      refine b_set (R := Same) 9 (P := tupOf (isQ (cQ K) 472) (half rs ts)) (ev_tupleOf T.n_tuple ((ev_lcR 10 (own := [("_law_k", 10)]) (n := rs.length) (tt := tYes) (fun _ => true) (fun i => (rs.getD i default + ts.getD i default) * Rat.divInt 1 2) (isQ (cQ K) 472) moN (by omega) T.n_range (ev_is (ev_lenT T.n_len (ev_var 3 rfl pvb)) (by rw [hr1])) (fun _ _ _ _ K k => tt_yes (f := fun _ => true) (i := 0) rfl k)
        (fun i H13 hi _ s13 => fun s0 H0 C cl fp => by
          have gr := getD_at (as := rs) hi
          have gt := getD_at (as := ts) (i := i) (by omega)
          exact ev_qmul (n := 470) (m := 2) T (hr.mono (by decide)) (ev_qadd (n := 12) (m := 457) T (hr.mono (by decide)) (ev_ixT (ev_var 7 rfl (Mo.mo (R := Same) s13 pvq)) (ev_vv 10 rfl) (at_nat gr)) (ev_ixT (ev_var 8 rfl (Mo.mo (R := Same) s13 pvt)) (ev_vv 10 rfl) (at_nat gt)) (by decide)) (ev_quot (n := 2) (ok_QI T) (hr.mono (by decide)) (by decide) (by decide) (by decide) (by decide) (by decide) (ea_cons ev_int (ea_cons ev_int ea_nil))) (by decide))
        scLaw.nd (fun _ _ _ _ _ => pts_nil) (blkOk_by (N := nLaw) (sc := defScope slaw) (by decide +kernel)) (by decide) (fun _ _ _ _ _ => pg_name (i := 10) scLaw.nd rfl (Or.inl rfl))).imp fun v H1 _ p => by rw [kept_all] at p; exact p) (fun _ => inferInstance)) (fun vh H13 s13 pvh => ?_) scLaw.nd
      have pst := Mo.mo (R := Same) s13 pst
      have pvw := Mo.mo (R := Same) s13 pvw
      have pvq := Mo.mo (R := Same) s13 pvq
      refine b_when (R := Same) (et_nt (et_vt (ev_call (ok_match T) (hr.mono (by decide)) ((bandsOf z, ls), (12, rs), (472, half rs ts)) ⟨cC1, cC3, half_C tl cc⟩ (ea_cons (ev_var 5 rfl pvw) (ea_cons (ev_var 7 rfl pvq) (ea_cons (ev_var 9 rfl pvh) ea_nil)))) rfl)) (fun ht => by cases ht) (fun _ H14 s14 => RSs.nil (RSs.nil ?_))
      exact ⟨_, _, _, _, _, _, _, _, rfl, Mo.mo (R := Same) s14 pst⟩
  · obtain ⟨_, b, c, d, e, f, g, h, rfl, pst⟩ := hW
    exact b_ret (R := Same) ev_bl fun v H5 s5 pv => k v H5 pv
end
end Ly
set_option Elab.async false
set_option linter.all false
set_option maxRecDepth 100000
set_option maxHeartbeats 0
open PySem PySem.W PySem.Calls PyProof.Rows
theorem PySem.Challenge.cw_colormatch_k33_whole_other_matches_holds : PySem.Challenge.rw_colormatch_k33_whole_other_matches.Holds := by
  w_on; o_law
  refine HandSHeadRun.head_any (r := OpenLaw.row PySem.Challenge.rw_colormatch_k33_whole_other_matches) (q := view (OpenLaw.row PySem.Challenge.rw_colormatch_k33_whole_other_matches).prog [64]) (H := Ly.hk) (ob := Ly.ob) (M := 20000) (loose := Ly.loose) (d := HandSHeadRun.topDef (OpenLaw.row PySem.Challenge.rw_colormatch_k33_whole_other_matches).prog 64) (kwd := []) Ly.ob_eq
    (by kernel_rfl) (fun s => by kernel_rfl) Ly.run (by kernel_rfl) (by kernel_rfl) (by kernel_rfl) (by rfl) (by first | assumption | decide +kernel) (by decide +kernel) ⟨rfl, rfl, rfl, rfl, rfl, by decide +kernel⟩ ?hw ?hc
  case hw => w_witness2
  case hc =>
    refine L2.walk_ofE (l := PySem.Challenge.rw_colormatch_k33_whole_other_matches) (n := 63) (k := 11) (x := "_law_script") (CX := L2.CX0) rfl (by decide) (by kernel_rfl) ⟨rfl, by decide, by decide⟩ ?F (fun _ _ _ _ z => z)
    intro w mg fa h Y G hmg0
    obtain ⟨K, KX, c⟩ := Y
    have hmg : mg ("law" : PySem.Str) = some (.ref fa) := by
      have e : (HandSHeadRun.topDef (OpenLaw.row PySem.Challenge.rw_colormatch_k33_whole_other_matches).prog 64).name = ("law" : PySem.Str) := by kernel_rfl
      rw [← e]
      exact hmg0
    have T : Ly.Tx K mg := Ly.Tx.of c KX G
    obtain ⟨fd, F⟩ := T.d_law
    have e := hmg.symm.trans T.g_law
    cases e
    have b2 : ∀ (s : Shared) (u : Value), BindsTo s fd ⟨[u], []⟩ [("_law_script", u)] := fun s u => by
      obtain ⟨oc, od, kV, doc, pm, an, cdv, ct, osl, rfl, lk, hcd⟩ := F.ex
      exact .of_eq rfl
    exact ⟨K, fd, Ly.spLaw K, KX, b2, fun H a ns hl _ hS => ⟨ns, ⟨_, _, rfl, ⟨a, rfl, hS⟩, rfl⟩, hl, fun v _ h => h⟩, fun base _ _ => Ly.ok_law T F⟩
