import PyProof.Rows.All
import Wide.All
import OpenK.AllK
import Wide.FinOn
import HandS.ForMost
import HandS.Wide
import HandS.IsInst
import HandS.ForExc
import HandS.Evl
import PyProof.EqAt
import PyProof.EqKinds
import HandS.HotCalls
import HandS.EndBits
import HandS.ExcIs
import HandS.TryOnly
import HandS.TryMany
import HandS.SetFor
import HandS.WordsExc
import PySem.Challenge.RW_coinjudge_k08_a_judge_through_deeds
set_option Elab.async false
set_option linter.all false
set_option maxRecDepth 100000
set_option maxHeartbeats 4000000
/-! # Words for readings: run them from the left -/
namespace Cj
open PySem PySem.Spec PyProof.Rows L2
section
variable {K : PySem.W.Frag} {σ : L2.St} {H : Hp} {ta tb te : TE} {t u : TT} {Q : VK} {D : Ends} {tu tz tw : TS} {QB : Bool → Hp → Prop} {g : TG}
theorem g_start {ts : TS} {N : List Str} {vs : List V} (σ : L2.St) (h : L2.start N vs = σ) (q : ts D σ H) : ts D (L2.start N vs) H := by
  rw [h]; exact q
theorem g_var {i : Nat} {v : V} (h : σ[i]? = some (some v)) (q : Q v H) : tVar i σ H Q := ⟨v, h, q⟩
theorem g_c {v : V} (q : Q v H) : tC v σ H Q := q
theorem g_op {r : R2} (h : ta σ H fun x H1 => tb σ H1 fun y H2 => r x y H2 Q) : tOp r ta tb σ H Q := h
theorem g_un {r : V → Hp → VK → Prop} (h : ta σ H fun x H1 => r x H1 Q) : tUn r ta σ H Q := h
theorem g_I0 {f : Int → Int → V} {i j : Int} (q : Q (f i j) H) : rI0 f (.int i) (.int j) H Q := ⟨i, j, rfl, rfl, q⟩
theorem g_I {C : Int → Int → Prop} {f : Int → Int → V} {i j : Int} (c : C i j) (q : Q (f i j) H) : rI C f (.int i) (.int j) H Q := ⟨i, j, rfl, rfl, c, q⟩
theorem g_U {f : Int → V} {i : Int} (q : Q (f i) H) : rU f (.int i) H Q := ⟨i, rfl, q⟩
theorem g_eqI {i j : Int} (q : Q (.bl (decide (i = j))) H) : rEq (.int i) (.int j) H Q := ⟨rfl, by
  have e : decide (V.int i = V.int j) = decide (i = j) := by simp
  rw [e]; exact q⟩
theorem g_neI {i j : Int} (q : Q (.bl (!decide (i = j))) H) : rNe (.int i) (.int j) H Q := ⟨rfl, by
  have e : decide (V.int i = V.int j) = decide (i = j) := by simp
  rw [e]; exact q⟩
theorem g_ix {p : Addr} {xs : List V} {i : Int} {v : V} (h : SqL K H p xs) (ha : atI xs i = some v) (q : Q v H) : rIxL K (.ref p) (.int i) H Q := ⟨p, xs, i, v, rfl, rfl, h, ha, q⟩
theorem g_ixT {p : Addr} {xs : List V} {i : Int} {v : V} (h : SqT K H p xs) (ha : atI xs i = some v) (q : Q v H) : rIxT K (.ref p) (.int i) H Q := ⟨p, xs, i, v, rfl, rfl, h, ha, q⟩
theorem g_test {b : Bool} (q : QB b H) : (fun x H' => ∃ k, x = V.bl k ∧ QB k H') (V.bl b) H := ⟨b, rfl, q⟩
theorem g_tTest (h : te σ H fun x H' => ∃ k, x = V.bl k ∧ QB k H') : tTest te σ H QB := h
theorem g_tB (h : te σ H fun x H' => ∃ k, x = V.bl k ∧ QB k H') : tB te σ H QB := h
theorem g_bl {b : Bool} {P : Bool → Prop} (q : P b) : ∃ k, V.bl b = V.bl k ∧ P k := ⟨b, rfl, q⟩
theorem g_and (h : t σ H fun c H1 => if c = true then u σ H1 QB else QB false H1) : tAnd t u σ H QB := h
theorem g_or (h : t σ H fun c H1 => if c = true then QB true H1 else u σ H1 QB) : tOr t u σ H QB := h
theorem g_not (h : t σ H fun c H1 => QB (!c) H1) : tNot t σ H QB := h
theorem g_andV (h : ta σ H fun x H1 => ∃ c, x = .bl c ∧ if c = true then tb σ H1 Q else Q (.bl false) H1) : tAndV ta tb σ H Q := h
theorem g_orV (h : ta σ H fun x H1 => ∃ c, x = .bl c ∧ if c = true then Q (.bl true) H1 else tb σ H1 Q) : tOrV ta tb σ H Q := h
theorem g_notV (h : ta σ H fun x H1 => ∃ c, x = .bl c ∧ Q (.bl (!c)) H1) : tNotV ta σ H Q := h
/-! arguments -/
variable {QA : List V → Hp → Prop} {tA : TA}
theorem g_nil (q : QA [] H) : tNil σ H QA := q
theorem g_cons (h : ta σ H fun x H1 => tA σ H1 fun xs H2 => QA (x :: xs) H2) : tCons ta tA σ H QA := h
theorem g_cb {r : List V → Hp → VK → Prop} (h : tA σ H fun vs H1 => r vs H1 Q) : tCB r tA σ H Q := h
theorem g_call {sp : Sp} {dvs : List V} {E : XK} (h : tA σ H fun vs H1 => sp (vs ++ dvs) H1 Q E) : tCall sp dvs E tA σ H Q := h
theorem g_bm {T : String} {r : V → List V → Hp → VK → Prop} (h : ta σ H fun x H1 => tyV K T x H1 ∧ tA σ H1 fun xs H2 => r x xs H2 Q) : tBM K T r ta tA σ H Q := h
theorem g_bm0 {T : String} {r : V → List V → Hp → VK → Prop} (h : ta σ H fun x H1 => tyV K T x H1 ∧ r x [] H1 Q) : tBM0 K T r ta σ H Q := h
theorem g_tup (h : tA σ H fun xs H1 => xs.length ≤ sizeLine ∧ ∀ p, H1 p = none → Q (.ref p) (upd H1 p (.tup xs))) : tTup tA σ H Q := h
theorem g_lst (h : tA σ H fun xs H1 => xs.length ≤ sizeLine ∧ ∀ p, H1 p = none → Q (.ref p) (upd H1 p (.lst xs))) : tLst tA σ H Q := h
/-! statements -/
theorem g_asg (h : te σ H fun v H1 => g v σ H1 D.nx) : tAsg te g D σ H := h
theorem g_name {i : Nat} {v : V} {R : L2.St → Hp → Prop} (q : R (σ.set i (some v)) H) : gName i v σ H R := q
theorem g_sub {to ti : TE} {ts : TSet} {v : V} {R : L2.St → Hp → Prop} (h : to σ H fun o H1 => ti σ H1 fun i H2 => ts o i v H2 fun H3 => R σ H3) : gSub to ti ts v σ H R := h
theorem g_seq (h : tu { D with nx := tz D } σ H) : tSeq tu tz D σ H := h
theorem g_drop (h : te σ H fun _ H1 => D.nx σ H1) : tDrop te D σ H := h
theorem g_ret (h : te σ H D.rt) : tRet te D σ H := h
theorem g_retN (h : D.rt .non H) : tRetN D σ H := h
theorem g_if (h : t σ H fun b H1 => if b = true then tu D σ H1 else tw D σ H1) : tIfS t tu tw D σ H := h
theorem g_next (h : D.nx σ H) : tNext D σ H := h
theorem g_nx {a c d : L2.St → Hp → Prop} {b : VK} (h : a σ H) : Ends.nx ⟨a, b, c, d⟩ σ H := h
theorem g_rt {a c d : L2.St → Hp → Prop} {b : VK} {v : V} (h : b v H) : Ends.rt ⟨a, b, c, d⟩ v H := h
theorem g_ite {c : Bool} {A B : Prop} (h1 : c = true → A) (h2 : c = false → B) : if c = true then A else B := by
  cases c with
  | true => exact h1 rfl
  | false => exact h2 rfl
theorem g_iteNT {A B : Prop} (h : B) : if (!true) = true then A else B := h
theorem g_iteNF {A B : Prop} (h : A) : if (!false) = true then A else B := h
theorem g_iteD {c : Prop} [Decidable c] {A B : Prop} (h1 : c → A) (h2 : ¬ c → B) : if decide c = true then A else B := by
  by_cases h : c
  · rw [decide_eq_true h]; exact h1 h
  · rw [decide_eq_false h]; exact h2 h
theorem g_iteN {c : Prop} [Decidable c] {A B : Prop} (h1 : ¬ c → A) (h2 : c → B) : if (!decide c) = true then A else B := by
  by_cases h : c
  · rw [decide_eq_true h]; exact h2 h
  · rw [decide_eq_false h]; exact h1 h
theorem g_cut (Mid : L2.St → Hp → Prop) (h : tu { D with nx := Mid } σ H) (k : ∀ σ' H', Mid σ' H' → tz D σ' H') : Evl.tCut tu tz D σ H := ⟨Mid, h, k⟩
end
/-! loops -/
section
variable {K : PySem.W.Frag} {σ : L2.St} {H : Hp} {te : TE} {D : Ends} {tu : TS} {tA : TA}
theorem f_R1 {j : Nat} {n : Int} (hn : -(2 ^ 62) ≤ n ∧ n < 2 ^ 62) (Pv : Nat → L2.St → Hp → Prop) (h0 : Pv 0 σ H)
    (hs : ∀ (i : Nat) σ' H', (i : Int) < n → Pv i σ' H' → tu { D with nx := Pv (i + 1), ct := Pv (i + 1), bk := D.nx } (σ'.set j (some (.int (i : Int)))) H')
    (hd : ∀ σ' H', Pv n.toNat σ' H' → D.nx σ' H') (ht : ∀ Q : List V → Hp → Prop, Q [.int n] H → tA σ H Q) : tFor (iRng1 tA) (gName j) tu D σ H :=
  ht _ ⟨n, rfl, hn.1, hn.2, for_range (lo := 0) (n := n.toNat) Pv h0 (fun i σ' H' hi p => by
    have e0 : (0 : Int) + (i : Int) = (i : Int) := Int.zero_add _
    show tu { D with nx := Pv (i + 1), ct := Pv (i + 1), bk := D.nx } (σ'.set j (some (.int ((0 : Int) + (i : Int))))) H'
    rw [e0]
    exact hs i σ' H' (by omega) p) hd⟩
theorem f_R2 {j : Nat} {lo n : Int} (hn : -(2 ^ 62) ≤ lo ∧ lo < 2 ^ 62 ∧ -(2 ^ 62) ≤ n ∧ n < 2 ^ 62) (Pv : Nat → L2.St → Hp → Prop) (h0 : Pv 0 σ H)
    (hs : ∀ (i : Nat) σ' H', lo + (i : Int) < n → Pv i σ' H' → tu { D with nx := Pv (i + 1), ct := Pv (i + 1), bk := D.nx } (σ'.set j (some (.int (lo + (i : Int))))) H')
    (hd : ∀ σ' H', Pv (n - lo).toNat σ' H' → D.nx σ' H') (ht : ∀ Q : List V → Hp → Prop, Q [.int lo, .int n] H → tA σ H Q) : tFor (iRng2 tA) (gName j) tu D σ H :=
  ht _ ⟨lo, n, rfl, hn, for_range (lo := lo) (n := (n - lo).toNat) Pv h0 (fun i σ' H' hi p => hs i σ' H' (by omega) p) hd⟩
/-- range(n - 1, -1, -1), by the places from above -/
theorem f_Dn {j : Nat} {n : Nat} (hn : (n : Int) < 2 ^ 62) (Pv : Nat → L2.St → Hp → Prop) (h0 : Pv n σ H)
    (hs : ∀ (k : Nat) σ' H', k < n → Pv (k + 1) σ' H' → tu { D with nx := Pv k, ct := Pv k, bk := D.nx } (σ'.set j (some (.int (k : Int)))) H')
    (hd : ∀ σ' H', Pv 0 σ' H' → D.nx σ' H') (ht : ∀ Q : List V → Hp → Prop, Q [.int ((n : Int) - 1), .int (-1), .int (-1)] H → tA σ H Q) : tFor (iRng3 tA) (gName j) tu D σ H :=
  ht _ ⟨(n : Int) - 1, -1, -1, ((n : Int) - 1 - -1).toNat, rfl, RgC.neg (by omega) (by omega) (by decide) (by decide), by
    have en : ((n : Int) - 1 - -1).toNat = n := by omega
    rw [en]
    refine for_rangeC (lo := (n : Int) - 1) (c := -1) (n := n) (fun i => Pv (n - i)) h0 (fun i σ' H' hi p => ?_) fun σ' H' p => ?_
    · have ek : (n : Int) - 1 + (i : Int) * -1 = ((n - 1 - i : Nat) : Int) := by omega
      have e1 : n - (i + 1) = n - 1 - i := by omega
      have e2 : n - i = n - 1 - i + 1 := by omega
      show tu { D with nx := Pv (n - (i + 1)), ct := Pv (n - (i + 1)), bk := D.nx } (σ'.set j (some (.int ((n : Int) - 1 + (i : Int) * -1)))) H'
      rw [ek, e1]
      exact hs (n - 1 - i) σ' H' (by omega) (by rw [← e2]; exact p)
    · rw [Nat.sub_self] at p
      exact hd σ' H' p⟩
theorem f_L {a : Addr} {xs : List V} {j : Nat} (hx : SqL K H a xs) (Pv : Nat → L2.St → Hp → Prop) (h0 : Pv 0 σ H) (hl : ∀ i σ' H', i ≤ xs.length → Pv i σ' H' → SqL K H' a xs)
    (hs : ∀ i x σ' H', xs[i]? = some x → Pv i σ' H' → tu { D with nx := Pv (i + 1), ct := Pv (i + 1), bk := D.nx } (σ'.set j (some x)) H')
    (hd : ∀ σ' H', Pv xs.length σ' H' → D.nx σ' H') (ht : ∀ Q : VK, Q (.ref a) H → te σ H Q) : tFor (iList K te) (gName j) tu D σ H :=
  ht _ ⟨a, rfl, ⟨xs, hx⟩, for_list Pv h0 hl hs hd⟩
theorem g_forL {j : Nat} (h : te σ H fun x H1 => ∃ a, x = .ref a ∧ (∃ xs, SqL K H1 a xs) ∧ ∃ W : Nat → Nat → L2.St → Hp → Prop, (∃ m, W 0 m σ H1) ∧ ∀ i m σ H, W i m σ H →
      ((Itl K a).stop i H ∧ D.nx σ H) ∨ ((Itl K a).go i H ∧ ∃ N : L2.St → Hp → Prop, (∀ σ' H', N σ' H' → ∃ m', m' < m ∧ W (i + 1) m' σ' H') ∧ ∀ x H', (Itl K a).yld i H x H' → gName j x σ H' fun σ2 H2 => tu { D with nx := N, ct := N, bk := D.nx } σ2 H2)) :
    tFor (iList K te) (gName j) tu D σ H := h
theorem f_L1 {a : Addr} {xs : List V} {j : Nat} (hx : SqL K H a xs) (Pv : Nat → L2.St → Hp → Prop) (h0 : Pv 0 σ H) (hl : ∀ i σ' H', i ≤ xs.length → Pv i σ' H' → SqL K H' a xs)
    (hs : ∀ i x σ' H', xs[i]? = some x → Pv i σ' H' → tu { D with nx := Pv (i + 1), ct := Pv (i + 1), bk := D.nx } (σ'.set j (some x)) H')
    (hd : ∀ σ' H', Pv xs.length σ' H' → D.nx σ' H') : ∃ a', V.ref a = .ref a' ∧ (∃ xs, SqL K H a' xs) ∧ ∃ W : Nat → Nat → L2.St → Hp → Prop, (∃ m, W 0 m σ H) ∧ ∀ i m σ H, W i m σ H →
      ((Itl K a').stop i H ∧ D.nx σ H) ∨ ((Itl K a').go i H ∧ ∃ N : L2.St → Hp → Prop, (∀ σ' H', N σ' H' → ∃ m', m' < m ∧ W (i + 1) m' σ' H') ∧ ∀ x H', (Itl K a').yld i H x H' → gName j x σ H' fun σ2 H2 => tu { D with nx := N, ct := N, bk := D.nx } σ2 H2) :=
  ⟨a, rfl, ⟨xs, hx⟩, for_list Pv h0 hl hs hd⟩
end
/-! heaps, lists -/
section
variable {K : PySem.W.Frag} {H H' H1 H2 : Hp} {a p q : Addr} {o : HO} {xs : List V}
theorem same_new (h : H p = none) : Same H (upd H p o) := fun b x e => by
  rw [upd_ne (ne_of_none e h)]; exact e
/-- what H does not know may change -/
theorem same_mut (e : Same H H') (h : H p = none) : Same H (upd H' p o) := fun b x hb => by
  rw [upd_ne (ne_of_none hb h)]; exact e b x hb
theorem upd_self (h : H p = some o) : upd H p o = H := by
  funext b
  by_cases e : b = p
  · rw [e, upd_same, h]
  · rw [upd_ne e]
theorem sq_of (h : H a = some (.lst xs)) : SqL K H a xs := .inl (.inl h)
theorem sqt_of (h : H a = some (.tup xs)) : SqT K H a xs := .inl (.inl h)
theorem seqT (e : Same H H') (h : SqT K H a xs) : SqT K H' a xs := by
  rcases h with (h | ⟨o, h⟩) | h
  · exact .inl (.inl (e _ _ h))
  · exact .inl (.inr ⟨o, e _ _ h⟩)
  · exact .inr h
/-- another address is written -/
theorem sq_upd (h : SqL K H a xs) (ne : a ≠ p) : SqL K (upd H p o) a xs := by
  rcases h with (h | ⟨o', h⟩) | h
  · exact .inl (.inl (by rw [upd_ne ne]; exact h))
  · exact .inl (.inr ⟨o', by rw [upd_ne ne]; exact h⟩)
  · exact .inr h
theorem at_int {ns : List Int} {k : Nat} (h : k < ns.length) : atI (ns.map V.int) (k : Int) = some (.int (ns.getD k 0)) := atI_nat (by
  rw [List.getElem?_map, List.getD_eq_getElem?_getD, List.getElem?_eq_getElem h]; rfl)
theorem at_val {ns : List Int} {k : Nat} {x : Int} (h : ns[k]? = some x) : atI (ns.map V.int) (k : Int) = some (.int x) := atI_nat (by rw [List.getElem?_map, h]; rfl)
theorem at_neg1 {ns : List Int} {x : Int} (h : ns[ns.length - 1]? = some x) : atI (ns.map V.int) (-1) = some (.int x) := by
  have hl := (List.getElem?_eq_some_iff.mp h).1
  unfold atI ixN
  rw [List.length_map, if_neg (by decide), if_pos (by omega)]
  show (ns.map V.int)[((-1 : Int) + (ns.length : Int)).toNat]? = _
  rw [show ((-1 : Int) + (ns.length : Int)).toNat = ns.length - 1 by omega, List.getElem?_map, h]
  rfl
theorem at_neg2 {ns : List Int} {x : Int} (h : ns[ns.length - 2]? = some x) (h2 : 2 ≤ ns.length := by omega) : atI (ns.map V.int) (-2) = some (.int x) := by
  unfold atI ixN
  rw [List.length_map, if_neg (by decide), if_pos (by omega)]
  show (ns.map V.int)[((-2 : Int) + (ns.length : Int)).toNat]? = _
  rw [show ((-2 : Int) + (ns.length : Int)).toNat = ns.length - 2 by omega, List.getElem?_map, h]
  rfl
theorem at_intZ {ns : List Int} {z : Int} (h0 : 0 ≤ z) (h : z < (ns.length : Int)) : atI (ns.map V.int) z = some (.int (ns.getD z.toNat 0)) := by
  have e : z = (z.toNat : Int) := by omega
  have l : z.toNat < ns.length := by omega
  have q := at_int l
  rw [← e] at q
  exact q
theorem getD_map {ns : List Int} {i : Nat} {x : V} (h : (ns.map V.int)[i]? = some x) : ∃ z, x = .int z ∧ ns[i]? = some z := by
  rw [List.getElem?_map] at h
  cases e : ns[i]? with
  | none => rw [e] at h; cases h
  | some z => rw [e] at h; exact ⟨z, (Option.some.inj h).symm, rfl⟩
theorem ixN_nat {n j : Nat} (hj : j < n) : ixN n (j : Int) = some j := by
  unfold ixN
  rw [if_pos (by omega), if_pos (by omega)]
  simp
theorem small_le {n : Nat} (h : n ≤ 100000) : n ≤ sizeLine := Nat.le_trans h (by decide)
theorem small_lt {n : Nat} (h : n < 100000) : n < sizeLine := Nat.lt_of_lt_of_le h (by decide)
end
/-! a def that may be called -/
structure Cal (P : Program) (w : World) (K : PySem.W.Frag) (mg : Str → Option Value) (base : Heap) (k : Nat) (x : Str) (ps : List Str) (sp : Sp) : Prop where
  ex : ∃ f fd, FnOk P w K mg base CX0 k f fd ps sp ∧ mg x = some (.ref f) ∧ PySem.W.keepIn K (.ref f) = true ∧ Binds K fd ps []
section
variable {X : Cx} {k j : Nat} {x : Str} {ps : List Str} {sp : Sp} {e : Expr} {es : List Expr} {t : TA} {p pos : Pos}
theorem pe_cal (c : Cal X.prog X.w X.K X.mg X.base k x ps sp) (hr : Room j X.A) (hk : k ≤ j) (ha : PA X (e :: es) t) (hg : Gl X x := by rfl) (hdb : (x == ("__debug__" : Str)) = false := by decide)
    (he : starEach (e :: es) X.env = (false, eval e X.env) :: starEach es X.env := by rfl) (hpl : (backTo pos (starEach es X.env)).any (·.1) = false := by rfl) :
    PE X (.Call (.Name x p) (e :: es) [] pos) (tCall sp [] E0 t) := by
  obtain ⟨f, fd, F, hm, hkp, hb⟩ := c.ex
  exact pe_call F (hr.mono hk) hg hm hkp hb .nil pass0 ha hdb he hpl
end
end Cj
namespace Cj
open PySem
/-- the built-in names that the text does not bind -/
structure Bn (mg : Str → Option Value) : Prop where
  m_len : mg "len" = none
  m_range : mg "range" = none
  m_list : mg "list" = none
  m_sum : mg "sum" = none
  m_min : mg "min" = none
  m_max : mg "max" = none
  m_isinstance : mg "isinstance" = none
  m_str : mg "str" = none
  m_int : mg "int" = none
  m_bool : mg "bool" = none
  m_tuple : mg "tuple" = none
  m_ValueError : mg "ValueError" = none
end Cj
namespace Cj
open PySem PySem.Spec PyProof.Rows L2
/-! readings by names -/
def rLn (K : PySem.W.Frag) : List V → Hp → VK → Prop := fun xs H Q => ∃ p ys, xs = [.ref p] ∧ (SqL K H p ys ∨ SqT K H p ys) ∧ Q (.int ys.length) H
def rLs (K : PySem.W.Frag) : List V → Hp → VK → Prop := fun xs H Q => ∃ p ys, xs = [.ref p] ∧ (SqL K H p ys ∨ SqT K H p ys) ∧ ∀ l, H l = none → Q (.ref l) (upd H l (.lst ys))
def rIsN : R2 := fun x y H Q => y = .non ∧ Q (.bl (decide (x = .non))) H
def rNotN : R2 := fun x y H Q => y = .non ∧ Q (.bl (!decide (x = .non))) H
section
variable {X : Cx}
theorem ix_listK {K : PySem.W.Frag} (h : X.K = K) : IxR X (rIxL K) := by
  rw [← h]; exact ix_list
theorem call_ln : CallR X (.builtin "len") (rLn X.K) := call_len_seq
theorem call_ls : CallR X (.type "list") (rLs X.K) := call_list_of
theorem op_is1 : OpR X (compareOp .Is) rIsN := op_isN
theorem op_isn1 : OpR X (compareOp .IsNot) rNotN := op_notN
end
section
variable {K : PySem.W.Frag} {H : Hp} {Q : VK}
theorem g_ln {p : Addr} {xs : List V} (h : SqL K H p xs) (q : Q (.int xs.length) H) : rLn K [.ref p] H Q := ⟨p, xs, rfl, .inl h, q⟩
theorem g_lnI {p : Addr} {ns : List Int} (h : SqL K H p (ns.map V.int)) (q : Q (.int ns.length) H) : rLn K [.ref p] H Q := ⟨p, _, rfl, .inl h, by rw [List.length_map]; exact q⟩
theorem g_lnT {p : Addr} {xs : List V} (h : SqT K H p xs) (q : Q (.int xs.length) H) : rLn K [.ref p] H Q := ⟨p, xs, rfl, .inr h, q⟩
theorem g_ls {p : Addr} {xs : List V} (h : SqL K H p xs) (q : ∀ l, H l = none → Q (.ref l) (upd H l (.lst xs))) : rLs K [.ref p] H Q := ⟨p, xs, rfl, .inl h, q⟩
theorem g_isN {x : V} (q : Q (.bl (decide (x = .non))) H) : rIsN x .non H Q := ⟨rfl, q⟩
theorem g_notN {x : V} (q : Q (.bl (!decide (x = .non))) H) : rNotN x .non H Q := ⟨rfl, q⟩
theorem g_app {l : Addr} {xs : List V} {y : V} (h : H l = some (.lst xs)) (hz : xs.length < sizeLine) (q : Q .non (upd H l (.lst (xs ++ [y])))) : rAppend (.ref l) [y] H Q := ⟨l, xs, y, rfl, rfl, h, hz, q⟩
theorem g_setL {l : Addr} {xs : List V} {k : Int} {j : Nat} {v : V} {R : Hp → Prop} (h : H l = some (.lst xs)) (hk : ixN xs.length k = some j) (q : R (upd H l (.lst (xs.set j v)))) : rSetL (.ref l) (.int k) v H R := ⟨l, xs, k, j, rfl, rfl, h, hk, q⟩
theorem g_sum {p : Addr} {ns : List Int} (h : SqL K H p (ns.map V.int)) (q : Q (.int ns.sum) H) : rSum K [.ref p] H Q := ⟨p, ns, rfl, h, q⟩
end
end Cj
namespace Cj
open PySem PySem.Spec PyProof.Rows L2
/-! comprehensions: G i is what stands behind i turns -/
section
variable {K : PySem.W.Frag} {σ : L2.St} {H : Hp} {te tl : TE} {tt : TT} {Q : VK} {tA : TA} {QB : Bool → Hp → Prop}
theorem g_yes (q : QB true H) : tYes σ H QB := q
theorem lc_end {D : Addr} {G : Nat → List V} {i : Nat} {y : V} (hs : (G i).length < sizeLine) (hG : G (i + 1) = G i ++ [y]) :
    ∃ acc, (upd H D (.lst (G i))) D = some (.lst acc) ∧ acc.length < sizeLine ∧ upd (upd H D (.lst (G i))) D (.lst (acc ++ [y])) = upd H D (.lst (G (i + 1))) :=
  ⟨G i, upd_same, hs, by rw [upd_upd, hG]⟩
theorem g_lcL {a : Addr} {xs : List V} {j : Nat} {vs : List Nat} (G : Nat → List V) (hG : G 0 = []) (hx : SqL K H a xs) (hw : ∀ x, wipe ((wipe σ vs).set j (some x)) vs = wipe σ vs)
    (hs : ∀ (i : Nat) (x : V) (D : Addr), xs[i]? = some x → H D = none → SqL K (upd H D (.lst (G i))) a xs → tt ((wipe σ vs).set j (some x)) (upd H D (.lst (G i))) fun b H3 =>
      if b = true then te ((wipe σ vs).set j (some x)) H3 fun y H4 => ∃ acc, H4 D = some (.lst acc) ∧ acc.length < sizeLine ∧ upd H4 D (.lst (acc ++ [y])) = upd H D (.lst (G (i + 1))) else H3 = upd H D (.lst (G (i + 1))))
    (q : ∀ D, H D = none → Q (.ref D) (upd H D (.lst (G xs.length)))) (ht : ∀ Q : VK, Q (.ref a) H → tl σ H Q) : tLc (iList K tl) (gName j) tt te vs σ H Q :=
  ht _ ⟨a, rfl, ⟨xs, hx⟩, fun D hD => lc_list (xs := xs) (fun i H' => H' = upd H D (.lst (G i))) (by rw [hG]) (fun i H' _ e => by rw [e]; exact (same_new hD).seq hx)
    (fun i x H' hi e => by rw [e]; exact ⟨hw x, hs i x D hi hD ((same_new hD).seq hx)⟩) (fun H' e => by rw [e]; exact q D hD)⟩
theorem g_lcR {j : Nat} {vs : List Nat} {n : Int} (G : Nat → List V) (hG : G 0 = []) (hn : -(2 ^ 62) ≤ n ∧ n < 2 ^ 62) (hw : ∀ x, wipe ((wipe σ vs).set j (some x)) vs = wipe σ vs)
    (hs : ∀ (i : Nat) (D : Addr), (i : Int) < n → H D = none → tt ((wipe σ vs).set j (some (.int (i : Int)))) (upd H D (.lst (G i))) fun b H3 =>
      if b = true then te ((wipe σ vs).set j (some (.int (i : Int)))) H3 fun y H4 => ∃ acc, H4 D = some (.lst acc) ∧ acc.length < sizeLine ∧ upd H4 D (.lst (acc ++ [y])) = upd H D (.lst (G (i + 1))) else H3 = upd H D (.lst (G (i + 1))))
    (q : ∀ D, H D = none → Q (.ref D) (upd H D (.lst (G n.toNat)))) (ht : ∀ Q : List V → Hp → Prop, Q [.int n] H → tA σ H Q) : tLc (iRng1 tA) (gName j) tt te vs σ H Q :=
  ht _ ⟨n, rfl, hn.1, hn.2, fun D hD => lc_range (lo := 0) (n := n.toNat) (fun i H' => H' = upd H D (.lst (G i))) (by rw [hG])
    (fun i H' hi e => by
      have e0 : (0 : Int) + (i : Int) = (i : Int) := Int.zero_add _
      show wipe ((wipe σ vs).set j (some (.int ((0 : Int) + (i : Int))))) vs = wipe σ vs ∧ tt ((wipe σ vs).set j (some (.int ((0 : Int) + (i : Int))))) H' _
      rw [e0, e]
      exact ⟨hw _, hs i D (by omega) hD⟩) (fun H' e => by rw [e]; exact q D hD)⟩
end
end Cj
namespace Cj
open PySem PySem.Spec PyProof.Rows L2
/-- a list of ints, as it stands -/
abbrev LI (ns : List Int) : HO := .lst (ns.map V.int)
/-- a new list of ints is given back -/
def RetL (xs : List Int) (H : Hp) (Q : VK) : Prop := ∀ (p : Addr) (H' : Hp), H p = none → Same H H' → H' p = some (LI xs) → Q (.ref p) H'
theorem LI_set (xs : List Int) (k : Nat) (v : Int) : (xs.map V.int).set k (.int v) = (xs.set k v).map V.int := List.map_set.symm
theorem LI_app (xs : List Int) (v : Int) : (xs.map V.int) ++ [.int v] = (xs ++ [v]).map V.int := by rw [List.map_append]; rfl
theorem LI_len (xs : List Int) : (xs.map V.int).length = xs.length := List.length_map _
end Cj
namespace Cj
open PySem PySem.Spec PyProof.Rows L2
/-! isinstance -/
section
variable {K : PySem.W.Frag} {H : Hp} {Q : VK}
theorem g_isInt {i : Int} (q : Q (.bl true) H) : rIsi K [.int i, .ty "int"] H Q := ⟨.int i, .ty "int", .type "int", .type "int", true, rfl, .ty _, .base (.int i), kit_ty (by decide +kernel), q⟩
theorem g_isIB {i : Int} (q : Q (.bl false) H) : rIsi K [.int i, .ty "bool"] H Q := ⟨.int i, .ty "bool", .type "int", .type "bool", false, rfl, .ty _, .base (.int i), kit_ty (by decide +kernel), q⟩
theorem g_isLst {a : Addr} {xs : List V} (h : H a = some (.lst xs)) (q : Q (.bl true) H) : rIsi K [.ref a, .ty "list"] H Q := ⟨.ref a, .ty "list", .type "list", .type "list", true, rfl, .ty _, .base (.lst h), kit_ty (by decide +kernel), q⟩
theorem g_isTup {a : Addr} {xs : List V} (h : H a = some (.tup xs)) (q : Q (.bl true) H) : rIsi K [.ref a, .ty "tuple"] H Q := ⟨.ref a, .ty "tuple", .type "tuple", .type "tuple", true, rfl, .ty _, .base (.tup h), kit_ty (by decide +kernel), q⟩
theorem g_isStr {z : Str} (q : Q (.bl true) H) : rIsi K [.str z, .ty "str"] H Q := ⟨.str z, .ty "str", .type "str", .type "str", true, rfl, .ty _, .base (.str z), kit_ty (by decide +kernel), q⟩
theorem g_isNT (q : Q (.bl false) H) : rIsi K [.non, .ty "tuple"] H Q := ⟨.non, .ty "tuple", .type "NoneType", .type "tuple", false, rfl, .ty _, .base .non, kit_ty (by decide +kernel), q⟩
end
end Cj
namespace Cj
open PySem PySem.Spec PyProof.Rows L2
/-! slices, lists joined -/
section
variable {K : PySem.W.Frag} {σ : L2.St} {H : Hp} {te : TE} {tl th : TO} {Q : VK} {QO : Option Int → Hp → Prop}
theorem g_sl {r : V → Option Int → Option Int → Hp → VK → Prop} (h : te σ H fun x H1 => tl σ H1 fun l H2 => th σ H2 fun u H3 => r x l u H3 Q) : tSl r te tl th σ H Q := h
theorem g_part (h : te σ H fun x H1 => ∃ i, x = .int i ∧ QO (some i) H1) : tPart te σ H QO := h
theorem g_nopart (h : QO none H) : tNoPart σ H QO := h
theorem g_int {i : Int} {P : Int → Prop} (q : P i) : ∃ k, V.int i = V.int k ∧ P k := ⟨i, rfl, q⟩
theorem g_slL {a : Addr} {xs : List V} {lo hi : Option Int} (h : SqL K H a xs) (q : ∀ p, H p = none → Q (.ref p) (upd H p (.lst (cutV xs lo hi)))) : rSlL K (.ref a) lo hi H Q := ⟨a, xs, rfl, h, q⟩
theorem g_cat {l b : Addr} {xs zs : List V} (h1 : H l = some (.lst xs)) (h2 : H b = some (.lst zs)) (hs : xs.length + zs.length ≤ sizeLine) (q : ∀ p, H p = none → Q (.ref p) (upd H p (.lst (xs ++ zs)))) : rCat (.ref l) (.ref b) H Q := ⟨l, b, xs, zs, rfl, rfl, h1, h2, hs, q⟩
theorem cut_from (xs : List V) (k : Nat) : cutV xs (some (k : Int)) none = xs.drop k := by
  unfold cutV
  rw [HT.sIx_nat, HT.sIx_none]
  by_cases h : k ≤ xs.length
  · rw [Nat.min_eq_left h, List.take_of_length_le (by rw [List.length_drop]; exact Nat.le_refl _)]
  · rw [Nat.min_eq_right (by omega), List.drop_length, List.drop_eq_nil_of_le (by omega), List.take_nil]
theorem cut_to (xs : List V) (k : Nat) : cutV xs none (some (k : Int)) = xs.take k := by
  unfold cutV
  rw [HT.sIx_nat, HT.sIx_none, List.drop_zero, Nat.sub_zero]
  by_cases h : k ≤ xs.length
  · rw [Nat.min_eq_left h]
  · rw [Nat.min_eq_right (by omega), List.take_length, List.take_of_length_le (by omega)]
theorem cut_last (xs : List V) : cutV xs none (some (-1)) = xs.take (xs.length - 1) := by
  have e : HT.sIx xs.length xs.length (some (-1)) = xs.length - 1 := by
    show (if (-1 : Int) < 0 then ((-1 : Int) + (xs.length : Int)).toNat else min (-1 : Int).toNat xs.length) = xs.length - 1
    rw [if_pos (by decide)]
    omega
  unfold cutV
  rw [HT.sIx_none, List.drop_zero, Nat.sub_zero, e]
end
end Cj
namespace Cj
open PySem PySem.Spec PyProof.Rows L2
/-! two lists of ints compared -/
theorem eqv_ints : ∀ ns ms : List Int, PyData.eqvAll (ns.map PyData.int) (ms.map PyData.int) = decide (ns = ms)
  | [], [] => rfl
  | [], _ :: _ => rfl
  | _ :: _, [] => rfl
  | x :: xs, y :: ys => by
    show ((x == y) && PyData.eqvAll (xs.map PyData.int) (ys.map PyData.int)) = _
    rw [eqv_ints xs ys, Bool.eq_iff_iff]
    simp
section
variable {K : PySem.W.Frag} {H : Hp} {Q : VK}
theorem dp_ints : ∀ ns : List Int, DpAll K H (ns.map V.int) (ns.map PyData.int)
  | [] => .nil
  | x :: xs => .cons (.int x) (dp_ints xs)
theorem g_eqL {a b : Addr} {ns ms : List Int} (ha : SqL K H a (ns.map V.int)) (hb : SqL K H b (ms.map V.int)) (q : Q (.bl (decide (ns = ms))) H) : rEqD K (.ref a) (.ref b) H Q :=
  ⟨_, _, .lst ha (dp_ints ns), .lst hb (dp_ints ms), PySem.W.shaped_ints ns, PySem.W.shaped_ints ms, by
    show Q (.bl (PyData.eqvAll (ns.map PyData.int) (ms.map PyData.int))) H
    rw [eqv_ints]
    exact q⟩
theorem g_neL {a b : Addr} {ns ms : List Int} (ha : SqL K H a (ns.map V.int)) (hb : SqL K H b (ms.map V.int)) (q : Q (.bl (!decide (ns = ms))) H) : rNeD K (.ref a) (.ref b) H Q :=
  ⟨_, _, .lst ha (dp_ints ns), .lst hb (dp_ints ms), PySem.W.shaped_ints ns, PySem.W.shaped_ints ms, by
    show Q (.bl (!PyData.eqvAll (ns.map PyData.int) (ms.map PyData.int))) H
    rw [eqv_ints]
    exact q⟩
theorem g_eqS {a b : Addr} {ns : List Int} (ha : SqL K H a (ns.map V.int)) (hb : SqL K H b (ns.map V.int)) (q : Q (.bl true) H) : rEqD K (.ref a) (.ref b) H Q := g_eqL ha hb (by rw [decide_eq_true rfl]; exact q)
theorem g_neS {a b : Addr} {ns : List Int} (ha : SqL K H a (ns.map V.int)) (hb : SqL K H b (ns.map V.int)) (q : Q (.bl false) H) : rNeD K (.ref a) (.ref b) H Q := g_neL ha hb (by rw [decide_eq_true rfl]; exact q)
end
end Cj
namespace Cj
open PySem PySem.Spec PyProof.Rows L2
/-! new objects, the heap behind them by a name -/
section
variable {K : PySem.W.Frag} {H H' : Hp} {Q : VK} {p : Addr} {o : HO}
theorem same_of (e : upd H p o = H') (hp : H p = none) : Same H H' := by
  rw [← e]; exact same_new hp
theorem at_upd (e : upd H p o = H') : H' p = some o := by
  rw [← e]; exact upd_same
theorem g_slN {a : Addr} {xs ys : List V} {lo hi : Option Int} (h : SqL K H a xs) (e : cutV xs lo hi = ys) (q : ∀ p H', H p = none → Same H H' → H' p = some (.lst ys) → Q (.ref p) H') : rSlL K (.ref a) lo hi H Q :=
  g_slL h fun p hp => by
    rw [e]
    exact q p _ hp (same_new hp) upd_same
theorem g_catN {l b : Addr} {xs zs ys : List V} (h1 : H l = some (.lst xs)) (h2 : H b = some (.lst zs)) (hs : xs.length + zs.length ≤ 100000) (e : xs ++ zs = ys) (q : ∀ p H', H p = none → Same H H' → H' p = some (.lst ys) → Q (.ref p) H') : rCat (.ref l) (.ref b) H Q :=
  g_cat h1 h2 (small_le hs) fun p hp => by
    rw [e]
    exact q p _ hp (same_new hp) upd_same
theorem g_lsN {a : Addr} {xs : List V} (h : SqL K H a xs) (q : ∀ p H', H p = none → Same H H' → H' p = some (.lst xs) → Q (.ref p) H') : rLs K [.ref a] H Q := g_ls h fun p hp => q p _ hp (same_new hp) upd_same
end
end Cj
namespace Cj
open PySem PySem.Spec PyProof.Rows L2
/-! texts -/
def rCatS : R2 := fun x y H Q => ∃ i j, x = .str i ∧ y = .str j ∧ i.length + j.length ≤ sizeLine ∧ Q (.str (i ++ j)) H
def rStrI : List V → Hp → VK → Prop := fun xs H Q => ∃ i, xs = [.int i] ∧ i.natAbs.log2 < 1920 ∧ Q (.str (Str.ofString (toString i))) H
def rLnS : List V → Hp → VK → Prop := fun xs H Q => ∃ z, xs = [.str z] ∧ z.length ≤ sizeLine ∧ Q (.int z.length) H
section
variable {X : Cx}
theorem op_catS : OpR X (binaryOp .Add) rCatS := op_add_str
theorem call_strI : CallR X (.type "str") rStrI := call_str_int
theorem call_lnS : CallR X (.builtin "len") rLnS := call_len_str
end
section
variable {K : PySem.W.Frag} {H : Hp} {Q : VK}
theorem g_catS {i j : Str} (h : i.length + j.length ≤ 100000) (q : Q (.str (i ++ j)) H) : rCatS (.str i) (.str j) H Q := ⟨i, j, rfl, rfl, small_le h, q⟩
theorem g_strI {i : Int} (h : i.natAbs < 2 ^ 1900) (q : Q (.str (Str.ofString (toString i))) H) : rStrI [.int i] H Q := ⟨i, rfl, Nat.lt_trans (PySem.Flt.log2_lt_of (by decide) h) (by decide), q⟩
theorem g_lnS {z : Str} (h : z.length ≤ 100000) (q : Q (.int z.length) H) : rLnS [.str z] H Q := ⟨z, rfl, small_le h, q⟩
theorem g_eqS' {i j : Str} (q : Q (.bl (decide (i = j))) H) : rEq (.str i) (.str j) H Q := ⟨rfl, by
  have e : decide (V.str i = V.str j) = decide (i = j) := by simp
  rw [e]; exact q⟩
theorem g_neS' {i j : Str} (q : Q (.bl (!decide (i = j))) H) : rNe (.str i) (.str j) H Q := ⟨rfl, by
  have e : decide (V.str i = V.str j) = decide (i = j) := by simp
  rw [e]; exact q⟩
end
def rJn (K : PySem.W.Frag) : V → List V → Hp → VK → Prop := fun x xs H Q => ∃ a p, ∃ ys : List Str, x = .str a ∧ xs = [.ref p] ∧ (SqL K H p (ys.map V.str) ∨ SqT K H p (ys.map V.str)) ∧ (ys.map (·.length)).sum + ys.length * a.length ≤ 16777216 ∧ Q (.str (Txt.join a ys)) H
def rSplt : V → List V → Hp → VK → Prop := fun x xs H Q => ∃ a b, x = .str a ∧ xs = [.str b] ∧ (b.length == 0) = false ∧ a.length + 2 ≤ sizeLine ∧ rNewStrs (Txt.split a b) H Q
theorem mt_jn {X : Cx} : MtR X "str.join" (rJn X.K) := mt_join
theorem mt_splt {X : Cx} : MtR X "str.split" rSplt := mt_split
section
variable {K : PySem.W.Frag} {σ : L2.St} {H : Hp} {to te : TE} {Q : VK}
theorem g_m1 {r : V → List V → Hp → VK → Prop} (h : to σ H fun x H1 => (∃ a, x = .str a) ∧ te σ H1 fun y H2 => r x [y] H2 Q) : tM1 r to te σ H Q := h
theorem g_m0 {r : V → List V → Hp → VK → Prop} (h : to σ H fun x H1 => (∃ a, x = .str a) ∧ r x [] H1 Q) : tM0 r to σ H Q := h
theorem g_strV {z : Str} {P : Prop} (h : P) : (∃ a, V.str z = V.str a) ∧ P := ⟨⟨z, rfl⟩, h⟩
theorem g_jn {a : Str} {p : Addr} {ys : List Str} (h : SqL K H p (ys.map V.str)) (hz : (ys.map (·.length)).sum + ys.length * a.length ≤ 100000) (q : Q (.str (Str.join a ys)) H) : rJn K (.str a) [.ref p] H Q :=
  ⟨a, p, ys, rfl, rfl, .inl h, Nat.le_trans hz (by decide), by rw [TL.join_eq]; exact q⟩
end
/-- a number as a text -/
def nst (i : Int) : Str := Str.ofString (toString i)
theorem nst_len {i : Int} {k : Nat} (h0 : 0 ≤ i) (hk : 0 < k) (h : i < 10 ^ k) : (nst i).length ≤ k := PyProof.Rows.toString_length_le h0 hk h
theorem slen_app (a b : Str) : (a ++ b).length = a.length + b.length := Str.length_append a b
end Cj

local macro_rules | `(tactic| walk_at "go1") => `(tactic| first
  | (with_reducible refine Cj.g_seq ?_)
  | (with_reducible refine Cj.g_nx ?_)
  | (with_reducible refine Cj.g_rt ?_)
  | (with_reducible refine Cj.g_asg ?_)
  | (with_reducible refine Cj.g_name ?_)
  | (with_reducible refine Cj.g_op ?_)
  | (with_reducible refine Cj.g_c ?_)
  | ((with_reducible apply Cj.g_var); (case h => exact rfl))
  | (with_reducible refine Cj.g_I0 ?_)
  | (with_reducible refine Cj.g_cons ?_)
  | (with_reducible refine Cj.g_nil ?_)
  | (with_reducible refine Cj.g_cb ?_)
  | (with_reducible refine Cj.g_call ?_)
  | (with_reducible refine Cj.g_un ?_)
  | (with_reducible refine Cj.g_U ?_)
  | (with_reducible refine Cj.g_tTest ?_)
  | (with_reducible refine Cj.g_tB ?_)
  | (with_reducible refine Cj.g_bl ?_)
  | (with_reducible refine Cj.g_if ?_)
  | (with_reducible refine Cj.g_and ?_)
  | (with_reducible refine Cj.g_or ?_)
  | (with_reducible refine Cj.g_not ?_)
  | (with_reducible refine Cj.g_andV ?_)
  | (with_reducible refine Cj.g_orV ?_)
  | (with_reducible refine Cj.g_notV ?_)
  | (with_reducible refine Cj.g_eqI ?_)
  | (with_reducible refine Cj.g_neI ?_)
  | (with_reducible refine Cj.g_drop ?_)
  | (with_reducible refine Cj.g_ret ?_)
  | (with_reducible refine Cj.g_retN ?_)
  | (with_reducible refine Cj.g_next ?_)
  | (with_reducible refine Cj.g_sub ?_)
  | (with_reducible refine Cj.g_bm ?_)
  | (with_reducible refine Cj.g_bm0 ?_)
  | (with_reducible refine Cj.g_tup ?_)
  | (with_reducible refine Cj.g_lst ?_)
  | (with_reducible refine Cj.g_isN ?_)
  | (with_reducible refine Cj.g_m1 ?_)
  | (with_reducible refine Cj.g_m0 ?_)
  | (with_reducible refine Cj.g_strV ?_)
  | (with_reducible refine Cj.g_eqS' ?_)
  | (with_reducible refine Cj.g_neS' ?_)
  | (with_reducible refine Cj.g_sl ?_)
  | (with_reducible refine Cj.g_part ?_)
  | (with_reducible refine Cj.g_nopart ?_)
  | (with_reducible refine Cj.g_int ?_)
  | (with_reducible refine Cj.g_yes ?_)
  | (with_reducible refine L2.iteT ?_)
  | (with_reducible refine Cj.g_iteNT ?_)
  | (with_reducible refine Cj.g_iteNF ?_)
  | (with_reducible refine L2.iteF ?_)
  | (with_reducible refine Cj.g_notN ?_)
  | (with_reducible refine Cj.g_isInt ?_)
  | (with_reducible refine Cj.g_isIB ?_)
  | (with_reducible refine Cj.g_isStr ?_)
  | ((with_reducible apply Cj.g_I); (case c => first | (show (0 : Int) < _; decide) | exact ⟨by decide, by decide⟩ | exact ⟨by decide, by decide, by decide⟩))
  | ((with_reducible apply Cj.g_lnI); (case h => assumption)))
local macro_rules | `(tactic| walk_at "go") => `(tactic| repeat walk_at "go1")
namespace Cj
open PySem PySem.Spec PyProof.Rows L2
/-! the five refusals: the class at D is one of them -/
/-- what the class at D says of itself (C: CoinError) -/
structure ExD (K : PySem.W.Frag) (mg : Str → Option Value) (R W A G T C D : Addr) (nD : Str) (b1 b2 b3 b4 b5 : Bool) : Prop where
  ec : ExcC K D
  nR : mg "NoRow" = some (.ref R)
  nW : mg "NoWay" = some (.ref W)
  nA : mg "NoAmount" = some (.ref A)
  nG : mg "TooGreat" = some (.ref G)
  nT : mg "NoText" = some (.ref T)
  nC : mg "CoinError" = some (.ref C)
  nD : mg nD = some (.ref D)
  q1 : PySem.W.kitOne K (.ref D) (.ref R) = some b1
  q2 : PySem.W.kitOne K (.ref D) (.ref W) = some b2
  q3 : PySem.W.kitOne K (.ref D) (.ref A) = some b3
  q4 : PySem.W.kitOne K (.ref D) (.ref G) = some b4
  q5 : PySem.W.kitOne K (.ref D) (.ref T) = some b5
  qV : PySem.W.kitOne K (.ref D) (.type "ValueError") = some true
  one : List.count true [b1, b2, b3, b4, b5] = 1
  mD : PySem.W.exmOne K (.ref D) (.ref D) = some true
  mC : PySem.W.exmOne K (.ref D) (.ref C) = some true
  ki : PySem.W.keepIn K (.ref D) = true
  ri : PySem.W.subIn K (.ref D) (.type "BaseException") = some true
  rt : PySem.W.typeIn K (.ref D) = some (.type "type")
  ex : PySem.W.excIn K D [.type "ValueError", .type "Exception", .type "BaseException", .type "object"] "ValueError.__new__" = true
def RunP (P : Program) (w : World) (K : PySem.W.Frag) (mg : Str → Option Value) (base : Heap) (k : Nat) (f : Addr) (fd : FuncData) (ps : List Str) (sp : Value → Option Addr → Hp → VK → Prop) : Prop :=
  ∀ (p : Addr × Obj) (cls : Value) (d : Option Addr) (A : Around) (outer : List Env) (s : Shared) (H : Hp) (args : Args) (us : List Value) (Q : VK), Zc cls d p.2 → (∃ fs, p.2.data = .fields fs) → L2H.RoomH k A → L2H.PinOk outer H s p → Env0 P w K mg base A outer s H →
    BindsTo s fd args (ps.zip us) → Vals [V.ref p.1] us → sp cls d H Q → codeAny (model P w) A (.call (.ref f) args) (CR CX0 outer P w H s Q E0) s
/-- a def that may be called where an exception is handled; it is handed that exception -/
structure CalP (P : Program) (w : World) (K : PySem.W.Frag) (mg : Str → Option Value) (base : Heap) (k : Nat) (x : Str) (ps : List Str) (sp : Value → Option Addr → Hp → VK → Prop) : Prop where
  ex : ∃ f fd, RunP P w K mg base k f fd ps sp ∧ mg x = some (.ref f) ∧ PySem.W.keepIn K (.ref f) = true ∧ Binds K fd ps [] ∧ ps.length = 1
/-- the same for a def that may raise -/
structure CalR (P : Program) (w : World) (K : PySem.W.Frag) (mg : Str → Option Value) (base : Heap) (k : Nat) (x : Str) (ps : List Str) (sp : Sp) : Prop where
  ex : ∃ f fd, FnOk P w K mg base (L2.CX P w) k f fd ps sp ∧ mg x = some (.ref f) ∧ PySem.W.keepIn K (.ref f) = true ∧ Binds K fd ps []
def rIsX (K : PySem.W.Frag) (cls : Value) (d : Option Addr) (a : Addr) : List V → Hp → VK → Prop := fun xs H Q => ∃ (D : Addr) (c : V) (cv : Value) (b : Bool), cls = .ref D ∧ d = none ∧ ExcC K D ∧ xs = [.ref a, c] ∧ (∀ u, RelV c u → u = cv) ∧ PySem.W.kitOne K (.ref D) cv = some b ∧ Q (.bl b) H
def tCalP (sp : Value → Option Addr → Hp → VK → Prop) (a : Addr) (cls : Value) (d : Option Addr) (te : TE) : TE := fun σ H Q => te σ H fun v H1 => v = .ref a ∧ sp cls d H1 Q
section
variable {X : Cx} {k j : Nat} {x : Str} {ps : List Str} {e : Expr} {es : List Expr} {t : TA} {te : TE} {p pos : Pos} {cls : Value} {d : Option Addr} {o : Addr × Obj}
theorem call_isX {K : PySem.W.Frag} {a : Addr} (eK : X.K = K) (ea : o.1 = a) (ho : o ∈ X.pn) (hz : Zc cls d o.2) (hf : ∃ fs, o.2.data = .fields fs) : CallR X (.builtin "isinstance") (rIsX K cls d a) := fun pins s σ H xs us Q I r h => by
  subst eK ea
  obtain ⟨D, c, cv, b, rfl, rfl, C, rfl, hcv, hb, q⟩ := h
  obtain ⟨u1, us1, rfl, r1, rr⟩ : ∃ u1 us1, us = u1 :: us1 ∧ RelV (.ref o.1) u1 ∧ Vals [c] us1 := by
    cases r with
    | cons r1 rr => exact ⟨_, _, rfl, r1, rr⟩
  obtain ⟨u2, rfl, r2⟩ := rr.one
  cases r1
  cases (hcv _ r2)
  have pinned := (I.pin o (List.mem_append_left _ ho)).1
  have at1 : PySem.W.InstAt s.heap o.1 o.2 D none := ⟨pinned, hz.1, by
    obtain ⟨fs, hfs⟩ := hf
    unfold PySem.W.notCls
    rw [hfs] <;> rfl, by
    rw [hz.2]
    trivial⟩
  have kit := PySem.W.handS_kitx_exc (x := o.1) (ox := o.2) C.hg C.hk C.hs C.hd C.ha C.hn C.ht C.hm
  exact PySem.W.kia_one kit I.kIn at1 hb (fun y => nomatch y) fun tk => ⟨V.bl b, H, I.kept (t' := tk) (fun _ _ same => same), rfl, q⟩
theorem room_up {A : Around} {v : Option Value} (r : Room j A) : L2H.RoomH j (A.mark v) := ⟨r.dp, r.un⟩
theorem pe_calP {sp : Value → Option Addr → Hp → VK → Prop} {a : Addr} (c : CalP X.prog X.w X.K X.mg X.base k x ps sp) (ea : o.1 = a) (ho : o ∈ X.pn) (hz : Zc cls d o.2) (hf : ∃ fs, o.2.data = .fields fs) (hr : L2H.RoomH j X.A) (hk : k ≤ j) (he : PE X e te) (hg : Gl X x := by rfl) (hdb : (x == ("__debug__" : Str)) = false := by decide)
    (hs : starEach (e :: []) X.env = (false, eval e X.env) :: starEach [] X.env := by rfl) (hpl : (backTo pos (starEach [] X.env)).any (·.1) = false := by rfl) :
    PE X (.Call (.Name x p) [e] [] pos) (tCalP sp a cls d te) := by
  subst ea
  obtain ⟨f, fd, run, hm, hkp, hb, h1⟩ := c.ex
  refine ⟨fun pins s σ H Q I h => wpAny_Call_Name_kw (ld_glob I hg hm ?_ hdb)⟩
  have ha : PA X [e] (tCons te tNil) := pa_cons he pa_nil hs
  refine PySem.W.callWith_K (h₀ := X.base) I.ok.mod.kin hkp (thn (ha.run pos pins s σ H (fun vs H1 => vs = [V.ref o.1] ∧ sp cls d H1 Q) I ?_) fun us s1 hh => ?_) hs hpl
  · refine (show tCons te tNil σ H _ from ?_)
    show te σ H fun v H1 => [v] = [V.ref o.1] ∧ sp cls d H1 Q
    have e2 : (fun v H1 => [v] = [V.ref o.1] ∧ sp cls d H1 Q) = (fun v H1 => v = V.ref o.1 ∧ sp cls d H1 Q) := by
      funext v H1
      simp
    rw [e2]
    exact h
  · obtain ⟨vs, H1, I1, r, ev, q⟩ := hh
    refine ⟨I1.kIn, ?_⟩
    rw [ev] at r
    have pinned := I1.pin o (List.mem_append_left _ ho)
    have far : o.1 ∉ frs X.stack := fun hm => by
      rcases List.mem_cons.mp (I1.stkSub o.1 hm) with z | z
      · exact pinned.2.2.1 z
      · exact pinned.2.2.2.1 z
    have ok : L2H.PinOk X.stack H1 s1 o := ⟨pinned.1, pinned.2.1, far, pinned.2.2.2.2⟩
    have hl : us.length = ps.length := by rw [← r.length, h1]; rfl
    have b := hb s1 us I1.kIn (by rw [List.append_nil]; exact hl)
    rw [List.append_nil] at b
    refine wpAny_call (codeAny_mono (run o cls d X.A X.stack s1 H1 ⟨us, []⟩ us Q hz hf ⟨by have := hr.dp; omega, by have := hr.un; omega⟩ ok I1.env0 b r q) fun rs s' hq => ?_)
    match rs, hq with
    | .ok (.ret u), hq => exact I1.after hq
    | .ok .next, hq => exact hq.elim
    | .ok .brk, hq => exact hq.elim
    | .ok .cont, hq => exact hq.elim
    | .error _, hq => exact hq.elim
theorem pe_calR {sp : Sp} {W : WX} (c : CalR X.prog X.w X.K X.mg X.base k x ps sp) (tk : L2.Takes X W) (hr : Room j X.A) (hk : k ≤ j) (ha : PA X (e :: es) t) (hg : Gl X x := by rfl) (hdb : (x == ("__debug__" : Str)) = false := by decide)
    (he : starEach (e :: es) X.env = (false, eval e X.env) :: starEach es X.env := by rfl) (hpl : (backTo pos (starEach es X.env)).any (·.1) = false := by rfl) :
    PE X (.Call (.Name x p) (e :: es) [] pos) (tCallS sp (WE W) t) := by
  obtain ⟨f, fd, F, hm, hkp, hb⟩ := c.ex
  exact pe_callS F (hr.mono hk) hg hm hkp hb (fun σ => passAt tk σ) ha hdb he hpl
end
/-! counting what is true -/
def isT (v : Value) : Bool := match v with
  | .bool b => b
  | _ => false
theorem isT_eq (b : Bool) : MeetsSeq.EqGives (.bool b) (.bool true) b := by
  intro prog w A E s Q h
  have z := PySem.SeqAt.EqAt.bool_bool (A := A) (s := s) b true prog w E Q
  cases b with
  | true => exact z h
  | false => exact z h
def rCntB (K : PySem.W.Frag) : V → List V → Hp → VK → Prop := fun x xs H Q => ∃ (p : Addr) (bs : List Bool), x = .ref p ∧ xs = [.bl true] ∧ SqL K H p (bs.map V.bl) ∧ Q (.int (bs.count true : Nat)) H
theorem vals_bl : ∀ {bs : List Bool} {us : List Value}, Vals (bs.map V.bl) us → us = bs.map Value.bool
  | [], _, r => by cases r; rfl
  | b :: bs, _, r => by
    cases r with
    | cons r1 rr =>
      cases r1
      rw [vals_bl rr] <;> rfl
theorem cnt_bl : ∀ bs : List Bool, (bs.map Value.bool).countP isT = bs.count true
  | [] => rfl
  | b :: bs => by
    rw [List.map_cons, List.countP_cons, List.count_cons, cnt_bl bs]
    cases b <;> rfl
theorem mt_cntB {X : Cx} : MtR X "list.count" (rCntB X.K) := fun pins s σ H x xs v us Q I rx rxs h => by
  obtain ⟨p, bs, rfl, rfl, hs, q⟩ := h
  cases rx
  obtain ⟨u, rfl, ru⟩ := rxs.one
  cases ru
  obtain ⟨its, rv, ⟨⟨cls, dd, data, sl⟩, n, ho, hc, hdn, hd⟩, _⟩ := I.list hs
  dsimp only at hc hd
  subst hc hd
  cases (vals_bl rv)
  have eqs : ∀ y, y ∈ (bs.map Value.bool).toArray → MeetsSeq.EqGives y (.bool true) (isT y) := fun y hy => by
    obtain ⟨b, _, rfl⟩ := List.mem_map.mp (by simpa using hy : y ∈ bs.map Value.bool)
    exact isT_eq b
  have many : (bs.map Value.bool).toArray.toList.countP isT = bs.count true := cnt_bl bs
  refine call_meets PySem.F.slot_list_count ⟨_, ho, rfl⟩ PySem.F.entry_list_count (PySem.F.args_list_count_2 _ _)
    (SeqAt.list_countAt p (bs.map Value.bool).toArray n dd sl (.bool true) isT) ⟨ho, fun y hy => (eqs y hy).at _ _, ?_⟩
  refine ⟨V.int (bs.count true : Nat), H, I.tok _, ⟨s.toks, ?_⟩, q⟩
  rw [← many] <;> rfl

/-! a def that is handed the exception -/
theorem run_ofP {P : Program} {w : World} {K : PySem.W.Frag} {mg : Str → Option Value} {base : Heap} {k : Nat} {x qual : Str} {st : Stmt} {f : Addr} {fd : FuncData} {N ps : List Str} {sp : Value → Option Addr → Hp → VK → Prop} (F : Fun K x qual st f fd) (S : FnScope N ps (defScope st)) (h1 : ps.length = 1)
    (hbody : ∀ (o : Addr × Obj) (cls : Value) (d : Option Addr) (cdv : Value) (A : Around) (outer : List Env) (s : Shared) (H : Hp) (Q : VK), Zc cls d o.2 → (∃ fs, o.2.data = .fields fs) → L2H.RoomH k (A.deeper (envOfC qual (defScope st) s.heap.objs.size f cdv)) → sp cls d H Q →
      ∃ t, PSs (L2H.cxH CX0 P w K mg base N qual (defScope st) f cdv A outer s H E0 o) (defBody st) t ∧ t { nx := fun _ H' => Q .non H', rt := Q } (start N [.ref o.1]) H) : RunP P w K mg base (k + 1) f fd ps sp := by
  obtain ⟨oc, od, kV, doc, pm, an, cdv, ct, osl, rfl, look, code⟩ := F.ex
  intro o cls d A outer s H args us Q hz hf room pinned e0 bound rs hsp
  have stand : ∀ b u, base.get? b = some u → s.heap.get? b = some u := fun b u z => (e0.bs b u z).1
  have KX : K.In s.heap := e0.mod.kin.keeps stand
  have kinds : ∀ y ∈ ps.zip us, (defScope st).names.lookup y.1 = some .local ∨ ((defScope st).names.lookup y.1 = some .cell ∧ ((cellsFrom (s.heap.objs.size + 1) (defScope st).names []).lookup y.1).isSome = true) := by
    rintro ⟨n, v⟩ hy
    have z := S.par n (List.of_mem_zip hy).1
    rcases z with z | z
    · exact .inl z
    · exact .inr ⟨z, PySem.W.cellsFrom_some _ _ _ (.inl z)⟩
  refine codeAny_call_function room.depth (KX _ _ look) rfl S.co S.gen rfl (PySem.W.codeRec_of KX code) (bound _ _ _ _ ?_)
  refine wpAny_newFunctionEnv_cells S.kind kinds fun env made s1 xc => ?_
  cases made
  refine ⟨(e0.mod.nolimit.keeps stand).keeps xc.toInCall.keep, codeAny_func ?_⟩
  obtain ⟨t, ht, hq⟩ := hbody o cls d cdv A outer s H Q hz hf (room.deeper _) hsp
  have J0 := L2H.inv_startH (CX := CX0) (E := E0) S pinned e0 (show [V.ref o.1].length = ps.length by rw [h1]; rfl) rs xc
  refine wpAny_mono (ht.run [] s1 (L2.start N [.ref o.1]) H _ J0 hq) (fun fl s' hs => ?_) fun _ _ z => z
  match fl, hs with
  | .ret _, ⟨v, _, H', J, rv, q⟩ => exact ⟨v, H', J.os, J.bare, J.base, J.hok, rv, q⟩
  | .next, ⟨_, H', J, q⟩ => exact ⟨V.non, H', J.os, J.bare, J.base, J.hok, rfl, q⟩
  | .brk, ⟨_, _, _, q⟩ => exact q.elim
  | .cont, ⟨_, _, _, q⟩ => exact q.elim
end Cj

/-! # What the defs compute, as plain functions -/
namespace Cj
/-- what is still due behind the coins cs (the least one first), the greatest given first -/
def rs : List Int → Int → Int
  | [], a => a
  | c :: cs, a => rs cs a % c
/-- the first way -/
def fw : List Int → Int → List Int
  | [], _ => []
  | c :: cs, a => rs cs a / c :: fw cs a
def dot : List Int → List Int → Int
  | c :: cs, v :: vs => c * v + dot cs vs
  | _, _ => 0
/-- a row of coins -/
structure Row (cs : List Int) : Prop where
  len : cs.length ≤ 12
  hd : cs[0]? = some 1
  up : ∀ (i : Nat) (x y : Int), cs[i]? = some x → cs[i + 1]? = some y → x < y
  top : ∀ x ∈ cs, x ≤ 10 ^ 60
theorem Row.pos {cs : List Int} (R : Row cs) : ∀ (i : Nat) (x : Int), cs[i]? = some x → 1 ≤ x
  | 0, x, h => by
    rw [R.hd] at h
    exact Int.le_of_eq (Option.some.inj h)
  | i + 1, x, h => by
    have hl : i < cs.length := by
      have := (List.getElem?_eq_some_iff.mp h).1
      omega
    have e := List.getElem?_eq_getElem hl
    have p := R.pos i _ e
    have q := R.up i _ x e h
    omega
theorem Row.posM {cs : List Int} (R : Row cs) : ∀ c ∈ cs, 1 ≤ c := fun c h => by
  obtain ⟨i, h⟩ := List.mem_iff_getElem?.mp h
  exact R.pos i c h
theorem Row.ne {cs : List Int} (R : Row cs) : 0 < cs.length := by
  have := (List.getElem?_eq_some_iff.mp R.hd).1
  exact this
theorem fw_length : ∀ (cs : List Int) (a : Int), (fw cs a).length = cs.length
  | [], _ => rfl
  | c :: cs, a => by
    show (fw cs a).length + 1 = cs.length + 1
    rw [fw_length cs a]
theorem drop_at {α : Type} {l : List α} {k : Nat} {x : α} (h : l[k]? = some x) : l.drop k = x :: l.drop (k + 1) := by
  obtain ⟨hk, e⟩ := List.getElem?_eq_some_iff.mp h
  rw [List.drop_eq_getElem_cons hk, e]
theorem take_at {α : Type} {l : List α} {k : Nat} {x : α} (h : l[k]? = some x) : l.take (k + 1) = l.take k ++ [x] := by
  rw [List.take_add_one, h]
  rfl
theorem dot_take : ∀ {cs ws : List Int} {i : Nat} {x y : Int}, cs[i]? = some x → ws[i]? = some y → dot (cs.take (i + 1)) (ws.take (i + 1)) = dot (cs.take i) (ws.take i) + x * y
  | [], _, _, _, _, h, _ => by simp at h
  | _ :: _, [], _, _, _, _, h => by simp at h
  | c :: cs, w :: ws, 0, x, y, h1, h2 => by
    have e1 : c = x := Option.some.inj h1
    have e2 : w = y := Option.some.inj h2
    rw [← e1, ← e2]
    simp [dot]
  | c :: cs, w :: ws, i + 1, x, y, h1, h2 => by
    have ih := dot_take (cs := cs) (ws := ws) (i := i) h1 h2
    show c * w + dot (cs.take (i + 1)) (ws.take (i + 1)) = c * w + dot (cs.take i) (ws.take i) + x * y
    rw [ih]
    omega
/-- the turn of the first way's loop -/
theorem fw_turn {cs : List Int} {k : Nat} {c : Int} (a : Int) (h : cs[k]? = some c) :
    (List.replicate (k + 1) (0 : Int) ++ fw (cs.drop (k + 1)) a).set k (rs (cs.drop (k + 1)) a / c) = List.replicate k 0 ++ fw (cs.drop k) a := by
  rw [drop_at h]
  show _ = List.replicate k 0 ++ (rs (cs.drop (k + 1)) a / c :: fw (cs.drop (k + 1)) a)
  rw [List.replicate_succ', List.append_assoc, List.set_append_right _ _ (by rw [List.length_replicate]; exact Nat.le_refl _), List.length_replicate, Nat.sub_self]
  rfl
theorem rs_turn {cs : List Int} {k : Nat} {c : Int} (a : Int) (h : cs[k]? = some c) : rs (cs.drop (k + 1)) a - rs (cs.drop (k + 1)) a / c * c = rs (cs.drop k) a := by
  rw [drop_at h]
  show _ = rs (cs.drop (k + 1)) a % c
  rw [Int.emod_def, Int.mul_comm]
theorem rs_bounds : ∀ {cs : List Int} {a : Int}, (∀ c ∈ cs, 1 ≤ c) → 0 ≤ a → 0 ≤ rs cs a ∧ rs cs a ≤ a
  | [], a, _, h => ⟨h, Int.le_refl _⟩
  | c :: cs, a, hc, h => by
    have ih := rs_bounds (cs := cs) (a := a) (fun x hx => hc x (List.mem_cons_of_mem _ hx)) h
    have h1 := hc c (List.mem_cons_self ..)
    have h2 : 0 ≤ rs cs a % c := Int.emod_nonneg _ (by omega)
    have h3 : rs cs a % c ≤ rs cs a := by
      have h4 := Int.mul_nonneg (show (0 : Int) ≤ c by omega) (Int.ediv_nonneg ih.1 (show (0 : Int) ≤ c by omega))
      rw [Int.emod_def]
      omega
    exact ⟨h2, Int.le_trans h3 ih.2⟩
end Cj
namespace Cj
theorem fw_mem : ∀ {cs : List Int} {a : Int}, (∀ c ∈ cs, 1 ≤ c) → 0 ≤ a → ∀ v ∈ fw cs a, 0 ≤ v ∧ v ≤ a
  | [], _, _, _, _, h => by cases h
  | c :: cs, a, hc, h0, v, h => by
    have hc' : ∀ x ∈ cs, 1 ≤ x := fun x hx => hc x (List.mem_cons_of_mem _ hx)
    rcases List.mem_cons.mp h with e | h
    · have b := rs_bounds hc' h0
      have h1 := hc c (List.mem_cons_self ..)
      subst e
      exact ⟨Int.ediv_nonneg b.1 (by omega), Int.le_trans (Int.ediv_le_self _ b.1) b.2⟩
    · exact fw_mem hc' h0 v h
theorem fw_drop : ∀ (cs : List Int) (a : Int) (k : Nat), (fw cs a).drop k = fw (cs.drop k) a
  | _, _, 0 => rfl
  | [], _, _ + 1 => rfl
  | _ :: cs, a, k + 1 => fw_drop cs a k
/-- what is given and what is still due -/
theorem dot_fw : ∀ (cs : List Int) (a : Int), dot cs (fw cs a) + rs cs a = a
  | [], a => by
    show 0 + a = a
    omega
  | c :: cs, a => by
    have ih := dot_fw cs a
    show c * (rs cs a / c) + dot cs (fw cs a) + rs cs a % c = a
    have e := Int.mul_ediv_add_emod (rs cs a) c
    omega
theorem rs_lt {cs : List Int} {k : Nat} {c : Int} (a : Int) (h : cs[k]? = some c) (hc : 1 ≤ c) : 0 ≤ rs (cs.drop k) a ∧ rs (cs.drop k) a < c := by
  rw [drop_at h]
  exact ⟨Int.emod_nonneg _ (by omega), Int.emod_lt_of_pos _ (by omega)⟩
theorem dot_zeros : ∀ (k : Nat) (cs ws : List Int), dot cs (List.replicate k 0 ++ ws) = dot (cs.drop k) ws
  | 0, _, _ => rfl
  | k + 1, [], ws => by
    cases ws <;> rfl
  | k + 1, c :: cs, ws => by
    show c * 0 + dot cs (List.replicate k 0 ++ ws) = dot (cs.drop k) ws
    rw [dot_zeros k cs ws]
    omega
/-- the trial of two places -/
def triW (cs : List Int) (hi lo : Nat) : List Int :=
  List.replicate lo 0 ++ ((fw cs (cs.getD hi 0 - 1)).getD lo 0 + 1) :: (fw cs (cs.getD hi 0 - 1)).drop (lo + 1)
def tri (cs : List Int) (hi lo : Nat) : Int × List Int := (dot cs (triW cs hi lo), triW cs hi lo)
theorem triW_length {cs : List Int} {hi lo : Nat} (h : lo < cs.length) : (triW cs hi lo).length = cs.length := by
  unfold triW
  rw [List.length_append, List.length_replicate, List.length_cons, List.length_drop, fw_length]
  omega
theorem triW_mem {cs : List Int} (R : Row cs) {hi lo : Nat} (hl : lo < hi) (hh : hi < cs.length) : ∀ v ∈ triW cs hi lo, 0 ≤ v ∧ v ≤ 10 ^ 60 := by
  intro v h
  have eh := List.getElem?_eq_getElem hh
  have g : cs.getD hi 0 = cs[hi] := by rw [List.getD_eq_getElem?_getD, eh]; rfl
  have p1 := R.pos hi _ eh
  have p2 := R.top _ (List.getElem_mem hh)
  have m := fw_mem (cs := cs) (a := cs.getD hi 0 - 1) R.posM (by omega)
  have ll : lo < (fw cs (cs.getD hi 0 - 1)).length := by rw [fw_length]; omega
  unfold triW at h
  rcases List.mem_append.mp h with h | h
  · have e := List.eq_of_mem_replicate h
    omega
  · rcases List.mem_cons.mp h with e | h
    · have k := m _ (List.getElem_mem ll)
      rw [List.getD_eq_getElem?_getD, List.getElem?_eq_getElem ll] at e
      have e' : v = (fw cs (cs.getD hi 0 - 1))[lo] + 1 := e
      omega
    · have k := m v (List.mem_of_mem_drop h)
      omega
theorem tri_worth {cs : List Int} {hi lo : Nat} {x : Int} (h : cs[lo]? = some x) : dot cs (triW cs hi lo) = x + (cs.getD hi 0 - 1) - rs (cs.drop lo) (cs.getD hi 0 - 1) := by
  unfold triW
  have hl : lo < cs.length := (List.getElem?_eq_some_iff.mp h).1
  have ll : lo < (fw cs (cs.getD hi 0 - 1)).length := by rw [fw_length]; omega
  have e := List.getElem?_eq_getElem ll
  rw [dot_zeros, List.getD_eq_getElem?_getD (l := fw cs (cs.getD hi 0 - 1)), e]
  have d := dot_fw (cs.drop lo) (cs.getD hi 0 - 1)
  rw [← fw_drop, drop_at e] at d
  rw [drop_at h] at d ⊢
  show x * ((fw cs (cs.getD hi 0 - 1))[lo] + 1) + _ = _
  have d' : x * (fw cs (cs.getD hi 0 - 1))[lo] + dot (cs.drop (lo + 1)) ((fw cs (cs.getD hi 0 - 1)).drop (lo + 1)) + rs (x :: cs.drop (lo + 1)) (cs.getD hi 0 - 1) = cs.getD hi 0 - 1 := d
  rw [Int.mul_add, Int.mul_one]
  omega
theorem tri_bounds {cs : List Int} (R : Row cs) {hi lo : Nat} (hl : lo < hi) (hh : hi < cs.length) : 1 ≤ (tri cs hi lo).1 ∧ (tri cs hi lo).1 ≤ 2 * 10 ^ 60 := by
  have hl' : lo < cs.length := by omega
  have e := List.getElem?_eq_getElem hl'
  have eh := List.getElem?_eq_getElem hh
  have g : cs.getD hi 0 = cs[hi] := by rw [List.getD_eq_getElem?_getD, eh]; rfl
  have p1 := R.pos hi _ eh
  have p2 := R.top _ (List.getElem_mem hh)
  have q1 := R.pos lo _ e
  have q2 := R.top _ (List.getElem_mem hl')
  have r := rs_lt (cs.getD hi 0 - 1) e q1
  have w := tri_worth (hi := hi) e
  show 1 ≤ dot cs (triW cs hi lo) ∧ dot cs (triW cs hi lo) ≤ 2 * 10 ^ 60
  rw [w]
  omega
/-- the turns of trial's two stores -/
theorem zero_turn {w : List Int} {i : Nat} (h : i < w.length) : (List.replicate i (0 : Int) ++ w.drop i).set i 0 = List.replicate (i + 1) 0 ++ w.drop (i + 1) := by
  rw [drop_at (List.getElem?_eq_getElem h), List.set_append_right _ _ (by rw [List.length_replicate]; exact Nat.le_refl _), List.length_replicate, Nat.sub_self, List.replicate_succ', List.append_assoc]
  rfl
theorem zero_at {w : List Int} {i : Nat} (h : i < w.length) : (List.replicate i (0 : Int) ++ w.drop i)[i]? = some (w.getD i 0) := by
  rw [List.getElem?_append_right (by rw [List.length_replicate]; exact Nat.le_refl _), List.length_replicate, Nat.sub_self, List.getElem?_drop, Nat.add_zero, List.getD_eq_getElem?_getD, List.getElem?_eq_getElem h]
  rfl
theorem zero_put {w : List Int} {i : Nat} (h : i < w.length) (y : Int) : (List.replicate i (0 : Int) ++ w.drop i).set i y = List.replicate i 0 ++ y :: w.drop (i + 1) := by
  rw [drop_at (List.getElem?_eq_getElem h), List.set_append_right _ _ (by rw [List.length_replicate]; exact Nat.le_refl _), List.length_replicate, Nat.sub_self]
  rfl
/-- the trials of the first n lows of one high; of all highs to h; all -/
def trow (cs : List Int) (hi n : Nat) : List (Int × List Int) := (List.range n).map (tri cs hi)
def trialsTo (cs : List Int) : Nat → List (Int × List Int)
  | 0 => []
  | h + 1 => trialsTo cs h ++ trow cs (h + 1) (h + 1)
def trialsL (cs : List Int) : List (Int × List Int) := trialsTo cs (cs.length - 1)
theorem trow_succ (cs : List Int) (hi n : Nat) : trow cs hi (n + 1) = trow cs hi n ++ [tri cs hi n] := by
  unfold trow
  rw [List.range_succ, List.map_append]
  rfl
theorem trialsTo_len (cs : List Int) : ∀ h, h ≤ 12 → (trialsTo cs h).length ≤ 12 * h
  | 0, _ => Nat.le_refl _
  | h + 1, l => by
    have ih := trialsTo_len cs h (by omega)
    show (trialsTo cs h ++ trow cs (h + 1) (h + 1)).length ≤ _
    rw [List.length_append]
    unfold trow
    rw [List.length_map, List.length_range]
    omega
theorem trialsTo_mem {cs : List Int} {p : Int × List Int} : ∀ {h : Nat}, p ∈ trialsTo cs h → ∃ hi lo, lo < hi ∧ hi ≤ h ∧ p = tri cs hi lo
  | 0, m => by cases m
  | h + 1, m => by
    rcases List.mem_append.mp m with m | m
    · obtain ⟨hi, lo, a, b, e⟩ := trialsTo_mem m
      exact ⟨hi, lo, a, by omega, e⟩
    · unfold trow at m
      obtain ⟨lo, hlo, e⟩ := List.mem_map.mp m
      exact ⟨h + 1, lo, List.mem_range.mp hlo, Nat.le_refl _, e.symm⟩
theorem mem_trialsTo {cs : List Int} {hi lo : Nat} : ∀ {h : Nat}, lo < hi → hi ≤ h → tri cs hi lo ∈ trialsTo cs h
  | 0, a, b => by omega
  | h + 1, a, b => by
    by_cases e : hi = h + 1
    · subst e
      exact List.mem_append_right _ (List.mem_map.mpr ⟨lo, List.mem_range.mpr a, rfl⟩)
    · exact List.mem_append_left _ (mem_trialsTo a (by omega))
theorem trials_mem {cs : List Int} {p : Int × List Int} (m : p ∈ trialsL cs) : ∃ hi lo, lo < hi ∧ hi < cs.length ∧ p = tri cs hi lo := by
  obtain ⟨hi, lo, a, b, e⟩ := trialsTo_mem m
  exact ⟨hi, lo, a, by omega, e⟩
theorem mem_trials {cs : List Int} {hi lo : Nat} (a : lo < hi) (b : hi < cs.length) : tri cs hi lo ∈ trialsL cs := mem_trialsTo a (by omega)
/-- the verdict -/
def better (cs : List Int) (p : Int × List Int) : Bool := decide (p.2.sum < (fw cs p.1).sum)
def lessR (p b : Int × List Int) : Bool := if p.1 = b.1 then (if p.2.sum = b.2.sum then false else decide (p.2.sum < b.2.sum)) else decide (p.1 < b.1)
def jstep (cs : List Int) (best : Option (Int × List Int)) (p : Int × List Int) : Option (Int × List Int) :=
  if better cs p = true then (match best with | none => some p | some b => if lessR p b = true then some p else some b) else best
def judgedM (cs : List Int) : Option (Int × List Int) := (trialsL cs).foldl (jstep cs) none
end Cj
namespace Cj
theorem row_one : Row [1] where
  len := by decide
  hd := rfl
  up := fun i x y _ h2 => by simp at h2
  top := fun x h => by
    rw [List.mem_singleton.mp h]
    decide
theorem Row.more {cs : List Int} (R : Row cs) {x c : Int} (h : cs[cs.length - 1]? = some x) (h1 : x < c) (h2 : c ≤ 10 ^ 60) (hl : cs.length < 12) : Row (cs ++ [c]) where
  len := by
    rw [List.length_append]
    show cs.length + 1 ≤ 12
    omega
  hd := by
    rw [List.getElem?_append_left R.ne]
    exact R.hd
  up := fun i a b ha hb => by
    by_cases hi : i + 1 < cs.length
    · rw [List.getElem?_append_left (by omega)] at ha
      rw [List.getElem?_append_left hi] at hb
      exact R.up i a b ha hb
    · have hi2 : i + 1 = cs.length := by
        have := (List.getElem?_eq_some_iff.mp hb).1
        rw [List.length_append] at this
        have e1 : ([c] : List Int).length = 1 := rfl
        omega
      rw [List.getElem?_append_left (by omega)] at ha
      rw [hi2, List.getElem?_append_right (Nat.le_refl _), Nat.sub_self] at hb
      have eb : c = b := Option.some.inj hb
      rw [show cs.length - 1 = i by omega, ha] at h
      have ea : a = x := Option.some.inj h
      omega
  top := fun y hy => by
    rcases List.mem_append.mp hy with hy | hy
    · exact R.top y hy
    · rw [List.mem_singleton.mp hy]
      exact h2
end Cj

/-! # Sums over places, ways as functions; Pearson's theorem on the least wrong amount -/
namespace Cj
def sm : Nat → (Nat → Int) → Int
  | 0, _ => 0
  | n + 1, f => sm n f + f n
theorem sm_congr {f g : Nat → Int} : ∀ {n : Nat}, (∀ k, k < n → f k = g k) → sm n f = sm n g
  | 0, _ => rfl
  | n + 1, h => by
    show sm n f + f n = sm n g + g n
    rw [sm_congr fun k hk => h k (by omega), h n (by omega)]
theorem sm_add (f g : Nat → Int) : ∀ n : Nat, sm n (fun k => f k + g k) = sm n f + sm n g
  | 0 => rfl
  | n + 1 => by
    show sm n (fun k => f k + g k) + (f n + g n) = sm n f + f n + (sm n g + g n)
    rw [sm_add f g n]
    omega
theorem sm_nonneg {f : Nat → Int} : ∀ {n : Nat}, (∀ k, k < n → 0 ≤ f k) → 0 ≤ sm n f
  | 0, _ => Int.le_refl _
  | n + 1, h => by
    have a := sm_nonneg (n := n) fun k hk => h k (by omega)
    have b := h n (by omega)
    show 0 ≤ sm n f + f n
    omega
theorem sm_mono {f : Nat → Int} {m : Nat} : ∀ {n : Nat}, m ≤ n → (∀ k, k < n → 0 ≤ f k) → sm m f ≤ sm n f
  | 0, hm, _ => by
    have e : m = 0 := by omega
    rw [e]
    exact Int.le_refl _
  | n + 1, hm, h => by
    by_cases e : m = n + 1
    · rw [e]
      exact Int.le_refl _
    · have a := sm_mono (m := m) (n := n) (by omega) fun k hk => h k (by omega)
      have b := h n (by omega)
      show sm m f ≤ sm n f + f n
      omega
theorem sm_above {f : Nat → Int} {m : Nat} : ∀ {n : Nat}, m ≤ n → (∀ k, m ≤ k → k < n → f k = 0) → sm n f = sm m f
  | 0, hm, _ => by
    have e : m = 0 := by omega
    rw [e]
  | n + 1, hm, h => by
    by_cases e : m = n + 1
    · rw [e]
    · have a := sm_above (m := m) (n := n) (by omega) fun k h1 h2 => h k h1 (by omega)
      have b := h n (by omega) (by omega)
      show sm n f + f n = sm m f
      omega
theorem sm_zero {f : Nat → Int} {n : Nat} (h : ∀ k, k < n → f k = 0) : sm n f = 0 := sm_above (m := 0) (Nat.zero_le _) fun k _ hk => h k hk
theorem sm_ge {f : Nat → Int} {n j : Nat} (hj : j < n) (h : ∀ k, k < n → 0 ≤ f k) : f j ≤ sm n f := by
  have a := sm_mono (m := j + 1) (n := n) hj h
  have b := sm_nonneg (f := f) (n := j) fun k hk => h k (by omega)
  have c : sm (j + 1) f = sm j f + f j := rfl
  omega
/-- a sum of nothing but noughts, its parts none below nought -/
theorem sm_eq_zero {f : Nat → Int} {n : Nat} (h : ∀ k, k < n → 0 ≤ f k) (e : sm n f = 0) : ∀ k, k < n → f k = 0 := fun k hk => by
  have a := sm_ge hk h
  have b := h k hk
  omega
def one (j : Nat) : Nat → Int := fun k => if k = j then 1 else 0
theorem one_same (j : Nat) : one j j = 1 := if_pos rfl
theorem one_ne {j k : Nat} (h : k ≠ j) : one j k = 0 := if_neg h
/-- what the pieces below m are worth; how many they are -/
def W (c V : Nat → Int) (m : Nat) : Int := sm m fun k => V k * c k
theorem W_succ (c V : Nat → Int) (m : Nat) : W c V (m + 1) = W c V m + V m * c m := rfl
theorem W_add (c V U : Nat → Int) (m : Nat) : W c (fun k => V k + U k) m = W c V m + W c U m := by
  unfold W
  rw [← sm_add]
  exact sm_congr fun k _ => Int.add_mul _ _ _
theorem W_congr {c V U : Nat → Int} {m : Nat} (h : ∀ k, k < m → V k = U k) : W c V m = W c U m := sm_congr fun k hk => by rw [h k hk]
theorem sm_one (c : Nat → Int) (j : Nat) : ∀ m : Nat, sm m (fun k => one j k * c k) = if j < m then c j else 0
  | 0 => rfl
  | m + 1 => by
    show sm m (fun k => one j k * c k) + one j m * c m = _
    rw [sm_one c j m]
    by_cases h : j < m
    · rw [if_pos h, if_pos (by omega), one_ne (by omega), Int.zero_mul]
      omega
    · by_cases e : m = j
      · subst e
        rw [if_neg h, if_pos (by omega), one_same, Int.one_mul]
        omega
      · rw [if_neg h, if_neg (by omega), one_ne e, Int.zero_mul]
        rfl
theorem W_one (c : Nat → Int) (j m : Nat) : W c (one j) m = if j < m then c j else 0 := sm_one c j m
theorem P_one (j m : Nat) : sm m (one j) = if j < m then 1 else 0 := by
  have e := sm_one (fun _ => 1) j m
  rw [← e]
  exact sm_congr fun k _ => (Int.mul_one _).symm
structure Coins (c : Nat → Int) (n : Nat) : Prop where
  pos : 0 < n
  one : c 0 = 1
  up : ∀ k, k + 1 < n → c k < c (k + 1)
theorem Coins.lt {c : Nat → Int} {n : Nat} (C : Coins c n) {i : Nat} : ∀ {j : Nat}, i < j → j < n → c i < c j
  | 0, h, _ => by omega
  | j + 1, h, hj => by
    have a := C.up j hj
    by_cases e : i = j
    · subst e
      exact a
    · have b := C.lt (i := i) (j := j) (by omega) (by omega)
      omega
theorem Coins.le {c : Nat → Int} {n : Nat} (C : Coins c n) {i j : Nat} (h : i ≤ j) (hj : j < n) : c i ≤ c j := by
  by_cases e : i = j
  · rw [e]
    exact Int.le_refl _
  · exact Int.le_of_lt (C.lt (by omega) hj)
theorem Coins.ge {c : Nat → Int} {n : Nat} (C : Coins c n) {k : Nat} (h : k < n) : 1 ≤ c k := by
  have a := C.le (Nat.zero_le k) h
  rw [C.one] at a
  exact a
/-- a way: none below nought -/
abbrev NN (n : Nat) (V : Nat → Int) : Prop := ∀ k, k < n → 0 ≤ V k
theorem W_parts {c V : Nat → Int} {n : Nat} (C : Coins c n) (h : NN n V) : ∀ k, k < n → 0 ≤ V k * c k := fun k hk => Int.mul_nonneg (h k hk) (by have := C.ge hk; omega)
/-- what the shop gives: the pieces of all coins below any coin are worth less than it -/
structure Gr (c : Nat → Int) (n : Nat) (V : Nat → Int) : Prop where
  nn : NN n V
  lt : ∀ k, k < n → W c V k < c k
theorem gr_unique {c V U : Nat → Int} : ∀ {n : Nat}, (∀ k, k < n → 1 ≤ c k) → Gr c n V → Gr c n U → W c V n = W c U n → ∀ k, k < n → V k = U k
  | 0, _, _, _, _, k, hk => by omega
  | n + 1, hc, gV, gU, e, k, hk => by
    have cn := hc n (by omega)
    have wV : 0 ≤ W c V n := sm_nonneg fun k hk => Int.mul_nonneg (gV.nn k (by omega)) (by have := hc k (by omega); omega)
    have wU : 0 ≤ W c U n := sm_nonneg fun k hk => Int.mul_nonneg (gU.nn k (by omega)) (by have := hc k (by omega); omega)
    have lV := gV.lt n (by omega)
    have lU := gU.lt n (by omega)
    rw [W_succ, W_succ] at e
    have en : V n = U n := by
      rcases Int.lt_trichotomy (V n) (U n) with h | h | h
      · have a : (V n + 1) * c n ≤ U n * c n := Int.mul_le_mul_of_nonneg_right h (by omega)
        rw [Int.add_mul, Int.one_mul] at a
        omega
      · exact h
      · have a : (U n + 1) * c n ≤ V n * c n := Int.mul_le_mul_of_nonneg_right h (by omega)
        rw [Int.add_mul, Int.one_mul] at a
        omega
    by_cases h : k = n
    · rw [h]
      exact en
    · rw [en] at e
      exact gr_unique (n := n) (fun k hk => hc k (by omega)) ⟨fun k hk => gV.nn k (by omega), fun k hk => gV.lt k (by omega)⟩ ⟨fun k hk => gU.nn k (by omega), fun k hk => gU.lt k (by omega)⟩ (by omega) k (by omega)
theorem gr_exists {c : Nat → Int} : ∀ {n : Nat} {a : Int}, (∀ k, k < n → 1 ≤ c k) → (0 < n → c 0 = 1) → 0 ≤ a → (n = 0 → a = 0) → ∃ V, Gr c n V ∧ W c V n = a
  | 0, a, _, _, _, h0 => ⟨fun _ => 0, ⟨fun k hk => by omega, fun k hk => by omega⟩, (h0 rfl).symm⟩
  | n + 1, a, hc, h1, ha, _ => by
    have cn := hc n (by omega)
    have r0 : 0 ≤ a % c n := Int.emod_nonneg _ (by omega)
    have r1 : a % c n < c n := Int.emod_lt_of_pos _ (by omega)
    have q0 : 0 ≤ a / c n := Int.ediv_nonneg ha (by omega)
    obtain ⟨V, g, e⟩ := gr_exists (c := c) (n := n) (a := a % c n) (fun k hk => hc k (by omega)) (fun _ => h1 (by omega)) r0 (fun hn => by
      subst hn
      rw [h1 (by omega)]
      exact Int.emod_one a)
    have same : ∀ m, m ≤ n → W c (fun k => if k = n then a / c n else V k) m = W c V m := fun m hm => W_congr fun k hk => if_neg (by omega)
    refine ⟨fun k => if k = n then a / c n else V k, ⟨fun k hk => ?_, fun k hk => ?_⟩, ?_⟩
    · show 0 ≤ if k = n then a / c n else V k
      by_cases h : k = n
      · rw [if_pos h]
        exact q0
      · rw [if_neg h]
        exact g.nn k (by omega)
    · rw [same k (by omega)]
      by_cases h : k = n
      · rw [h, e]
        exact r1
      · exact g.lt k (by omega)
    · rw [W_succ, same n (Nat.le_refl _), e]
      show a % c n + (if n = n then a / c n else V n) * c n = a
      rw [if_pos rfl]
      have := Int.mul_ediv_add_emod a (c n)
      rw [Int.mul_comm]
      omega
theorem exists_min {α : Type} (p : α → Prop) (f : α → Nat) (h : ∃ a, p a) : ∃ a, p a ∧ ∀ b, p b → f a ≤ f b := by
  obtain ⟨a, ha⟩ := h
  have key : ∀ m : Nat, ∀ a, p a → f a = m → ∃ a, p a ∧ ∀ b, p b → f a ≤ f b := by
    intro m
    induction m using Nat.strongRecOn with
    | _ m ih =>
      intro a ha e
      by_cases h : ∃ b, p b ∧ f b < m
      · obtain ⟨b, hb, lb⟩ := h
        exact ih (f b) lb b hb rfl
      · refine ⟨a, ha, fun b hb => ?_⟩
        rw [e]
        exact Nat.not_lt.mp fun l => h ⟨b, hb, l⟩
  exact key _ a ha rfl
/-- the greatest place with a piece -/
theorem exists_top {V : Nat → Int} : ∀ {n : Nat}, NN n V → (∃ k, k < n ∧ 0 < V k) → ∃ i, i < n ∧ 0 < V i ∧ ∀ k, i < k → k < n → V k = 0
  | 0, _, ⟨k, hk, _⟩ => by omega
  | n + 1, h, ⟨k, hk, pk⟩ => by
    by_cases hn : 0 < V n
    · exact ⟨n, by omega, hn, fun k h1 h2 => by omega⟩
    · have hk' : k ≠ n := fun e => hn (by rw [← e]; exact pk)
      obtain ⟨i, a, b, d⟩ := exists_top (n := n) (fun k hk => h k (by omega)) ⟨k, by omega, pk⟩
      refine ⟨i, by omega, b, fun k h1 h2 => ?_⟩
      by_cases e : k = n
      · have := h n (by omega)
        rw [e]
        omega
      · exact d k h1 (by omega)
/-- a way that is worth something has a piece -/
theorem exists_piece {c V : Nat → Int} {n : Nat} (h : NN n V) (hw : W c V n ≠ 0) : ∃ k, k < n ∧ 0 < V k := by
  by_cases e : ∃ k, k < n ∧ 0 < V k
  · exact e
  · refine absurd (sm_zero fun k hk => ?_) hw
    have a := h k hk
    have b : ¬ 0 < V k := fun z => e ⟨k, hk, z⟩
    have z : V k = 0 := by omega
    rw [z, Int.zero_mul]
/-- one piece less of a coin that there is -/
theorem nn_less {V : Nat → Int} {n j : Nat} (h : NN n V) (hj : 0 < V j) : NN n (fun k => V k - one j k) := fun k hk => by
  show 0 ≤ V k - one j k
  by_cases e : k = j
  · subst e
    rw [one_same]
    omega
  · rw [one_ne e]
    have := h k hk
    omega
theorem W_sub (c V U : Nat → Int) (m : Nat) : W c (fun k => V k - U k) m = W c V m - W c U m := by
  have e := W_add c (fun k => V k - U k) U m
  have e2 : W c (fun k => V k - U k + U k) m = W c V m := W_congr fun k _ => Int.sub_add_cancel _ _
  omega
theorem P_sub (V U : Nat → Int) (m : Nat) : sm m (fun k => V k - U k) = sm m V - sm m U := by
  have e := sm_add (fun k => V k - U k) U m
  have e2 : sm m (fun k => V k - U k + U k) = sm m V := sm_congr fun k _ => Int.sub_add_cancel _ _
  omega
theorem W_less (c V : Nat → Int) {j m : Nat} (hj : j < m) : W c (fun k => V k - one j k) m = W c V m - c j := by rw [W_sub, W_one, if_pos hj]
theorem P_less (V : Nat → Int) {j m : Nat} (hj : j < m) : sm m (fun k => V k - one j k) = sm m V - 1 := by rw [P_sub, P_one, if_pos hj]
theorem W_more (c V : Nat → Int) {j m : Nat} (hj : j < m) : W c (fun k => V k + one j k) m = W c V m + c j := by rw [W_add, W_one, if_pos hj]
theorem P_more (V : Nat → Int) {j m : Nat} (hj : j < m) : sm m (fun k => V k + one j k) = sm m V + 1 := by rw [sm_add, P_one, if_pos hj]
theorem gr_less {c V : Nat → Int} {n j : Nat} (hc : ∀ k, k < n → 1 ≤ c k) (g : Gr c n V) (hj : 0 < V j) : Gr c n (fun k => V k - one j k) := ⟨nn_less g.nn hj, fun k hk => by
  rw [W_sub, W_one]
  have a := g.lt k hk
  by_cases e : j < k
  · rw [if_pos e]
    have := hc j (by omega)
    omega
  · rw [if_neg e]
    omega⟩
theorem nn_more {V : Nat → Int} {n j : Nat} (h : NN n V) : NN n (fun k => V k + one j k) := fun k hk => by
  show 0 ≤ V k + one j k
  have a := h k hk
  by_cases e : k = j
  · subst e
    rw [one_same]
    omega
  · rw [one_ne e]
    omega
end Cj

namespace Cj
/-- the pieces of B below j left out, one piece more at j -/
def tr (j : Nat) (B : Nat → Int) : Nat → Int := fun k => if k < j then 0 else B k + one j k
theorem zero_of_part {V c : Nat → Int} {n k : Nat} {x : Int} (h : NN n V) (hc : ∀ k, k < n → 1 ≤ c k) (hk : k < n) (hx : W c V n < x) (hck : x ≤ c k) : V k = 0 := by
  have a := sm_ge (f := fun k => V k * c k) hk fun l hl => Int.mul_nonneg (h l hl) (by have := hc l hl; omega)
  have a' : V k * c k ≤ W c V n := a
  have b := h k hk
  by_cases e : V k = 0
  · exact e
  · have m : 1 * c k ≤ V k * c k := Int.mul_le_mul_of_nonneg_right (by omega) (by have := hc k hk; omega)
    omega
/-- Pearson: the least wrong amount is the worth of a trial, and that trial has as few pieces as any way of it -/
theorem pearson {c : Nat → Int} {n : Nat} (C : Coins c n) {w : Int} {V0 G : Nat → Int} (hV : NN n V0) (hVw : W c V0 n = w) (hG : Gr c n G) (hGw : W c G n = w) (hb : sm n V0 < sm n G)
    (hmin : ∀ U G', NN n U → Gr c n G' → W c U n = W c G' n → W c U n < w → sm n G' ≤ sm n U) :
    ∃ i j B, j ≤ i ∧ i + 1 < n ∧ Gr c n B ∧ W c B n = c (i + 1) - 1 ∧ W c (tr j B) n = w ∧ ∀ U, NN n U → W c U n = w → sm n (tr j B) ≤ sm n U := by
  have hc : ∀ k, k < n → 1 ≤ c k := fun k hk => C.ge hk
  -- the amount is not nought
  have hw0 : w ≠ 0 := fun e => by
    have z : sm n G = 0 := sm_zero fun k hk => by
      have p := sm_eq_zero (f := fun k => G k * c k) (fun k hk => W_parts C hG.nn k hk) (show W c G n = 0 by omega) k hk
      have p' : G k * c k = 0 := p
      have := hc k hk
      rcases Int.mul_eq_zero.mp p' with q | q
      · exact q
      · omega
    have := sm_nonneg (f := V0) (n := n) hV
    omega
  -- the ways with the fewest pieces
  obtain ⟨Vm, ⟨m1, m2⟩, m3⟩ := exists_min (fun V => NN n V ∧ W c V n = w) (fun V => (sm n V).toNat) ⟨V0, hV, hVw⟩
  have optm : ∀ U, NN n U → W c U n = w → sm n Vm ≤ sm n U := fun U h1 h2 => by
    have a := m3 U ⟨h1, h2⟩
    have b := sm_nonneg (f := U) (n := n) h1
    have b2 := sm_nonneg (f := Vm) (n := n) m1
    have a' : (sm n Vm).toNat ≤ (sm n U).toNat := a
    omega
  -- the least coin in any of them
  obtain ⟨j, ⟨hj, V1, ⟨p1, p2, p3⟩, pj⟩, jmin⟩ := exists_min (fun j => j < n ∧ ∃ V, (NN n V ∧ W c V n = w ∧ ∀ U, NN n U → W c U n = w → sm n V ≤ sm n U) ∧ 0 < V j) (fun j => j)
    (by
      obtain ⟨k, hk, pk⟩ := exists_piece m1 (by rw [m2]; exact hw0)
      exact ⟨k, hk, Vm, ⟨m1, m2, optm⟩, pk⟩)
  have below : ∀ V, NN n V → W c V n = w → (∀ U, NN n U → W c U n = w → sm n V ≤ sm n U) → ∀ k, k < j → V k = 0 := fun V h1 h2 h3 k hk => by
    have a := h1 k (by omega)
    by_cases e : 0 < V k
    · have := jmin k ⟨by omega, V, ⟨h1, h2, h3⟩, e⟩
      omega
    · omega
  have cj := hc j hj
  have l1 := nn_less p1 pj
  have w1 : W c (fun k => V1 k - one j k) n = w - c j := by rw [W_less c V1 hj, p2]
  have wj : 0 ≤ w - c j := by
    rw [← w1]
    exact sm_nonneg fun k hk => W_parts C l1 k hk
  obtain ⟨A, gA, wA⟩ := gr_exists hc (fun _ => C.one) wj (fun e => by have := C.pos; omega)
  have sA : sm n A ≤ sm n V1 - 1 := by
    rw [← P_less V1 hj]
    exact hmin _ A l1 gA (by rw [w1, wA]) (by rw [w1]; omega)
  have nV : NN n (fun k => A k + one j k) := nn_more gA.nn
  have wV : W c (fun k => A k + one j k) n = w := by
    rw [W_more c A hj, wA]
    omega
  have sV : sm n (fun k => A k + one j k) = sm n A + 1 := P_more A hj
  have oV : ∀ U, NN n U → W c U n = w → sm n (fun k => A k + one j k) ≤ sm n U := fun U h1 h2 => by
    have := p3 U h1 h2
    omega
  have A0 : ∀ k, k < j → A k = 0 := fun k hk => by
    have z : A k + one j k = 0 := below _ nV wV oV k hk
    rw [one_ne (by omega)] at z
    omega
  have Aj : 0 ≤ A j := gA.nn j hj
  have Vj : 0 < A j + one j j := by
    rw [one_same]
    omega
  obtain ⟨i, hi, pi, above⟩ := exists_top nV ⟨j, hj, Vj⟩
  have ji : j ≤ i := by
    by_cases e : j ≤ i
    · exact e
    · have z : A j + one j j = 0 := above j (by omega) hj
      omega
  have Aab : ∀ k, i < k → k < n → A k = 0 := fun k h1 h2 => by
    have z : A k + one j k = 0 := above k h1 h2
    rw [one_ne (by omega)] at z
    omega
  have partsV := W_parts C nV
  -- the coin above the greatest one in it goes into the amount
  have next : i + 1 < n ∧ c (i + 1) ≤ w := by
    by_cases h : i + 1 < n ∧ c (i + 1) ≤ w
    · exact h
    · exfalso
      have big : ∀ k, i < k → k < n → w < c k := fun k h1 h2 => by
        have a := C.le (i := i + 1) (j := k) h1 h2
        have b : ¬ c (i + 1) ≤ w := fun z => h ⟨by omega, z⟩
        omega
      have G0 : ∀ k, i < k → k < n → G k = 0 := fun k h1 h2 => zero_of_part hG.nn hc h2 (show W c G n < w + 1 by omega) (by have := big k h1 h2; omega)
      have wi : c i ≤ w := by
        have a := sm_ge (f := fun k => (A k + one j k) * c k) hi partsV
        have a' : (A i + one j i) * c i ≤ W c (fun k => A k + one j k) n := a
        have pi' : 0 < A i + one j i := pi
        have m : 1 * c i ≤ (A i + one j i) * c i := Int.mul_le_mul_of_nonneg_right (by omega) (by have := hc i hi; omega)
        omega
      have Gi : 0 < G i := by
        have a := hG.nn i hi
        by_cases e : 0 < G i
        · exact e
        · have z : G i = 0 := by omega
          have t : W c G n = W c G (i + 1) := sm_above (m := i + 1) (by omega) fun k h1 h2 => by rw [G0 k (by omega) h2, Int.zero_mul]
          rw [W_succ, z, Int.zero_mul] at t
          have := hG.lt i hi
          omega
      have a := hmin (fun k => A k + one j k - one i k) (fun k => G k - one i k) (nn_less nV pi) (gr_less hc hG Gi) (by rw [W_less c _ hi, W_less c _ hi, wV, hGw]) (by rw [W_less c _ hi, wV]; have := hc i hi; omega)
      rw [P_less _ hi, P_less _ hi] at a
      have := oV V0 hV hVw
      omega
  obtain ⟨hi1, ci1⟩ := next
  have WA : W c A n = W c A (i + 1) := sm_above (m := i + 1) (by omega) fun k h1 h2 => by rw [Aab k (by omega) h2, Int.zero_mul]
  have lA := gA.lt (i + 1) hi1
  -- what lies below a coin from j to i is worth no more than it
  have part : ∀ k, j < k → k ≤ i → W c (fun k => A k + one j k) k ≤ c k := fun k h1 h2 => by
    by_cases h : W c (fun k => A k + one j k) k ≤ c k
    · exact h
    · exfalso
      have kn : k < n := by omega
      have ck := hc k kn
      have u1 : W c (fun k => A k + one j k) k = W c A k + c j := W_more c A h1
      have u2 := gA.lt k kn
      have uw : W c (fun k => A k + one j k) k < w := by
        have a := sm_mono (f := fun k => (A k + one j k) * c k) (m := i + 1) (n := n) (by omega) partsV
        have b := sm_mono (f := fun k => (A k + one j k) * c k) (m := k) (n := i) h2 fun l hl => partsV l (by omega)
        have e : sm (i + 1) (fun k => (A k + one j k) * c k) = sm i (fun k => (A k + one j k) * c k) + (A i + one j i) * c i := rfl
        have pi' : 0 < A i + one j i := pi
        have m : 1 * c i ≤ (A i + one j i) * c i := Int.mul_le_mul_of_nonneg_right (by omega) (by have := hc i hi; omega)
        have := hc i hi
        have e2 : W c (fun k => A k + one j k) n = sm n (fun k => (A k + one j k) * c k) := rfl
        have e3 : W c (fun k => A k + one j k) k = sm k (fun k => (A k + one j k) * c k) := rfl
        omega
      -- the part below k, the part from k on
      have nU : NN n (fun l => if l < k then A l + one j l else 0) := fun l hl => by
        show 0 ≤ if l < k then A l + one j l else 0
        by_cases e : l < k
        · rw [if_pos e]
          exact nV l hl
        · rw [if_neg e]
          exact Int.le_refl _
      have nY : NN n (fun l => if l < k then 0 else A l + one j l) := fun l hl => by
        show 0 ≤ if l < k then 0 else A l + one j l
        by_cases e : l < k
        · rw [if_pos e]
          exact Int.le_refl _
        · rw [if_neg e]
          exact nV l hl
      have UY : ∀ l, (A l + one j l) = (if l < k then A l + one j l else 0) + (if l < k then 0 else A l + one j l) := fun l => by
        by_cases e : l < k
        · rw [if_pos e, if_pos e]
          omega
        · rw [if_neg e, if_neg e]
          omega
      have wU : W c (fun l => if l < k then A l + one j l else 0) n = W c (fun k => A k + one j k) k := by
        have e1 : W c (fun l => if l < k then A l + one j l else 0) n = W c (fun l => if l < k then A l + one j l else 0) k := sm_above (m := k) (by omega) fun l h1 h2 => by
          show (if l < k then A l + one j l else 0) * c l = 0
          rw [if_neg (by omega), Int.zero_mul]
        rw [e1]
        exact W_congr fun l hl => if_pos hl
      have sU : sm n (fun l => if l < k then A l + one j l else 0) = sm k (fun k => A k + one j k) := by
        have e1 : sm n (fun l => if l < k then A l + one j l else 0) = sm k (fun l => if l < k then A l + one j l else 0) := sm_above (m := k) (by omega) fun l h1 h2 => if_neg (by omega)
        rw [e1]
        exact sm_congr fun l hl => if_pos hl
      have wY : W c (fun l => if l < k then 0 else A l + one j l) n = w - W c (fun k => A k + one j k) k := by
        have a := W_add c (fun l => if l < k then A l + one j l else 0) (fun l => if l < k then 0 else A l + one j l) n
        have b : W c (fun l => (if l < k then A l + one j l else 0) + (if l < k then 0 else A l + one j l)) n = w := by
          rw [← wV]
          exact W_congr fun l _ => (UY l).symm
        rw [wU] at a
        omega
      have sY : sm n (fun l => if l < k then 0 else A l + one j l) = sm n (fun k => A k + one j k) - sm k (fun k => A k + one j k) := by
        have a := sm_add (fun l => if l < k then A l + one j l else 0) (fun l => if l < k then 0 else A l + one j l) n
        have b : sm n (fun l => (if l < k then A l + one j l else 0) + (if l < k then 0 else A l + one j l)) = sm n (fun k => A k + one j k) := sm_congr fun l _ => (UY l).symm
        rw [sU] at a
        omega
      have u0 : 0 ≤ W c (fun k => A k + one j k) k := by omega
      obtain ⟨Gu, gG, wG⟩ := gr_exists hc (fun _ => C.one) u0 (fun e => by have := C.pos; omega)
      have sG := hmin _ Gu nU gG (by rw [wU, wG]) (by rw [wU]; exact uw)
      rw [sU] at sG
      have nX : NN n (fun l => Gu l + if l < k then 0 else A l + one j l) := fun l hl => by
        have a := gG.nn l hl
        have b := nY l hl
        show 0 ≤ Gu l + if l < k then 0 else A l + one j l
        have b' : 0 ≤ if l < k then 0 else A l + one j l := b
        omega
      have wX : W c (fun l => Gu l + if l < k then 0 else A l + one j l) n = w := by
        rw [W_add c Gu, wG, wY]
        omega
      have sX : sm n (fun l => Gu l + if l < k then 0 else A l + one j l) = sm n Gu + (sm n (fun k => A k + one j k) - sm k (fun k => A k + one j k)) := by rw [sm_add Gu, sY]
      have oX : ∀ U, NN n U → W c U n = w → sm n (fun l => Gu l + if l < k then 0 else A l + one j l) ≤ sm n U := fun U h1 h2 => by
        have := oV U h1 h2
        omega
      have G0 : ∀ l, l < j → Gu l = 0 := fun l hl => by
        have z : (Gu l + if l < k then 0 else A l + one j l) = 0 := below _ nX wX oX l hl
        rw [if_pos (by omega)] at z
        omega
      obtain ⟨t, ht, pt, tab⟩ := exists_top gG.nn (exists_piece gG.nn (by rw [wG]; omega))
      have kt : k ≤ t := by
        by_cases e : k ≤ t
        · exact e
        · have z : W c Gu n = W c Gu k := sm_above (m := k) (by omega) fun l h1 h2 => by rw [tab l (by omega) h2, Int.zero_mul]
          have := gG.lt k kn
          omega
      have ct := C.le kt ht
      have n1 := nn_less gG.nn pt
      have w1 : W c (fun l => Gu l - one t l) n = W c (fun k => A k + one j k) k - c t := by rw [W_less c Gu ht, wG]
      have z1 : ∀ l, l < n → Gu l - one t l = 0 := fun l hl => by
        by_cases e : l < j
        · rw [G0 l e, one_ne (by omega)]
          omega
        · exact zero_of_part n1 hc hl (show W c (fun l => Gu l - one t l) n < c j by rw [w1]; omega) (C.le (by omega) hl)
      have s1 : sm n (fun l => Gu l - one t l) = 0 := sm_zero z1
      rw [P_less Gu ht] at s1
      have v1 := oX
      have v2 := oV _ nX wX
      rw [sX] at v2
      have v3 : sm k (fun k => A k + one j k) = sm k A + 1 := P_more A h1
      have v4 := sm_nonneg (f := A) (n := k) fun l hl => gA.nn l (by omega)
      have v5 : sm k A = 0 := by omega
      have v6 : W c A k = 0 := sm_zero fun l hl => by rw [sm_eq_zero (f := A) (fun l hl => gA.nn l (by omega)) v5 l hl, Int.zero_mul]
      have := C.lt h1 kn
      omega
  -- the first way of one less than the coin at i + 1
  have r0 : 0 ≤ c (i + 1) - 1 - (w - c j) := by omega
  obtain ⟨R, gR, wR⟩ := gr_exists (c := c) (n := j) (fun k hk => hc k (by omega)) (fun _ => C.one) r0 (fun e => by
    subst e
    have := C.one
    omega)
  have R1 : ∀ m, m ≤ j → W c (fun k => if k < j then R k else 0) m = W c R m := fun m hm => W_congr fun k hk => if_pos (by omega)
  have R2 : ∀ m, j ≤ m → W c (fun k => if k < j then R k else 0) m = c (i + 1) - 1 - (w - c j) := fun m hm => by
    have e : W c (fun k => if k < j then R k else 0) m = W c (fun k => if k < j then R k else 0) j := sm_above hm fun k h1 h2 => by
      show (if k < j then R k else 0) * c k = 0
      rw [if_neg (by omega), Int.zero_mul]
    rw [e, R1 j (Nat.le_refl _), wR]
  have A1 : ∀ m, m ≤ j → W c A m = 0 := fun m hm => sm_zero fun k hk => by rw [A0 k (by omega), Int.zero_mul]
  have eT : ∀ k, k < n → tr j (fun k => (if k < j then R k else 0) + A k) k = A k + one j k := by
    intro k hk
    show (if k < j then 0 else (if k < j then R k else 0) + A k + one j k) = A k + one j k
    by_cases e : k < j
    · rw [if_pos e, A0 k e, one_ne (by omega)]
      rfl
    · rw [if_neg e, if_neg e]
      omega
  refine ⟨i, j, fun k => (if k < j then R k else 0) + A k, ji, hi1, ⟨fun k hk => ?_, fun k hk => ?_⟩, ?_, ?_, ?_⟩
  · show 0 ≤ (if k < j then R k else 0) + A k
    have a := gA.nn k hk
    by_cases e : k < j
    · rw [if_pos e]
      have := gR.nn k e
      omega
    · rw [if_neg e]
      omega
  · rw [W_add]
    by_cases e : k < j
    · rw [R1 k (by omega), A1 k (by omega)]
      have := gR.lt k e
      omega
    · rw [R2 k (by omega)]
      by_cases e2 : k = j
      · subst e2
        rw [A1 k (Nat.le_refl _)]
        omega
      · by_cases e3 : k ≤ i
        · have a := part k (by omega) e3
          rw [W_more c A (by omega)] at a
          omega
        · have t : W c A n = W c A k := sm_above (m := k) (by omega) fun l h1 h2 => by rw [Aab l (by omega) h2, Int.zero_mul]
          have := C.le (i := i + 1) (j := k) (by omega) hk
          omega
  · rw [W_add, R2 n (by omega), wA]
    omega
  · rw [W_congr eT]
    exact wV
  · intro U h1 h2
    rw [sm_congr eT]
    exact oV U h1 h2
end Cj

/-! # Lists as functions of the place -/
namespace Cj
/-- what stands at a place of a list -/
abbrev at0 (l : List Int) : Nat → Int := fun k => l.getD k 0
theorem at0_of {l : List Int} {k : Nat} {x : Int} (h : l[k]? = some x) : at0 l k = x := by
  show l.getD k 0 = x
  rw [List.getD_eq_getElem?_getD, h]
  rfl
theorem at0_get {l : List Int} {k : Nat} (h : k < l.length) : l[k]? = some (at0 l k) := by
  rw [List.getElem?_eq_getElem h, at0_of (List.getElem?_eq_getElem h)]
theorem at0_mem {l : List Int} {k : Nat} (h : k < l.length) : at0 l k ∈ l := List.mem_of_getElem? (at0_get h)
theorem Row.coins {cs : List Int} (R : Row cs) : Coins (at0 cs) cs.length where
  pos := R.ne
  one := at0_of R.hd
  up := fun k hk => R.up k _ _ (at0_get (by omega)) (at0_get hk)
theorem dot_W {cs ws : List Int} (hl : ws.length = cs.length) : ∀ k, k ≤ cs.length → dot (cs.take k) (ws.take k) = W (at0 cs) (at0 ws) k
  | 0, _ => by
    rw [List.take_zero, List.take_zero]
    rfl
  | k + 1, h => by
    rw [dot_take (at0_get (l := cs) (by omega)) (at0_get (l := ws) (by omega)), dot_W hl k (by omega), W_succ, Int.mul_comm]
theorem dot_all {cs ws : List Int} (hl : ws.length = cs.length) : dot cs ws = W (at0 cs) (at0 ws) cs.length := by
  have e := dot_W hl cs.length (Nat.le_refl _)
  rw [List.take_of_length_le (Nat.le_refl _), List.take_of_length_le (by omega)] at e
  exact e
theorem sum_sm {ws : List Int} : ∀ k, k ≤ ws.length → (ws.take k).sum = sm k (at0 ws)
  | 0, _ => by
    rw [List.take_zero]
    rfl
  | k + 1, h => by
    rw [take_at (at0_get (l := ws) (by omega)), List.sum_append, sum_sm k (by omega)]
    show _ + (at0 ws k + 0) = sm k (at0 ws) + at0 ws k
    omega
theorem sum_all (ws : List Int) : ws.sum = sm ws.length (at0 ws) := by
  have e := sum_sm (ws := ws) ws.length (Nat.le_refl _)
  rw [List.take_of_length_le (Nat.le_refl _)] at e
  exact e
theorem nn_list {ws : List Int} (h : ∀ v ∈ ws, 0 ≤ v) : NN ws.length (at0 ws) := fun k hk => h _ (at0_mem hk)
/-- a function as a list -/
def ofF (n : Nat) (U : Nat → Int) : List Int := (List.range n).map U
theorem ofF_len (n : Nat) (U : Nat → Int) : (ofF n U).length = n := by
  unfold ofF
  rw [List.length_map, List.length_range]
theorem ofF_at {n k : Nat} (U : Nat → Int) (h : k < n) : at0 (ofF n U) k = U k := at0_of (by
  unfold ofF
  rw [List.getElem?_map, List.getElem?_range h]
  rfl)
theorem ofF_nn {n : Nat} {U : Nat → Int} (h : NN n U) : ∀ v ∈ ofF n U, 0 ≤ v := fun v hv => by
  unfold ofF at hv
  obtain ⟨k, hk, e⟩ := List.mem_map.mp hv
  rw [← e]
  exact h k (List.mem_range.mp hk)
theorem ofF_dot (cs : List Int) (U : Nat → Int) : dot cs (ofF cs.length U) = W (at0 cs) U cs.length := by
  rw [dot_all (ofF_len _ _)]
  exact W_congr fun k hk => ofF_at U hk
theorem ofF_sum (n : Nat) (U : Nat → Int) : (ofF n U).sum = sm n U := by
  rw [sum_all, ofF_len]
  exact sm_congr fun k hk => ofF_at U hk
/-- the first way is what the shop gives -/
theorem rs_all {cs : List Int} (R : Row cs) (a : Int) : rs cs a = 0 := by
  have e := drop_at R.hd
  rw [List.drop_zero] at e
  rw [e]
  exact Int.emod_one _
theorem dot_split {cs ws : List Int} : ∀ k, dot cs ws = dot (cs.take k) (ws.take k) + dot (cs.drop k) (ws.drop k)
  | 0 => by
    rw [List.take_zero, List.take_zero, List.drop_zero, List.drop_zero]
    show _ = 0 + _
    omega
  | k + 1 => by
    cases cs with
    | nil => rfl
    | cons c cs =>
      cases ws with
      | nil =>
        have z : ∀ l : List Int, dot l [] = 0 := fun l => by cases l <;> rfl
        rw [List.take_nil, List.drop_nil, z, z, z]
        rfl
      | cons v ws =>
        have ih := dot_split (cs := cs) (ws := ws) k
        show c * v + dot cs ws = c * v + dot (cs.take k) (ws.take k) + dot (cs.drop k) (ws.drop k)
        omega
theorem fw_worth {cs : List Int} (R : Row cs) (a : Int) : dot cs (fw cs a) = a := by
  have e := dot_fw cs a
  rw [rs_all R] at e
  omega
theorem fw_gr {cs : List Int} (R : Row cs) {a : Int} (h0 : 0 ≤ a) : Gr (at0 cs) cs.length (at0 (fw cs a)) where
  nn := by
    have n := nn_list (ws := fw cs a) fun v hv => (fw_mem R.posM h0 v hv).1
    rw [fw_length] at n
    exact n
  lt := fun k hk => by
    have l := fw_length cs a
    rw [← dot_W l k (by omega)]
    have s := dot_split (cs := cs) (ws := fw cs a) k
    have f := dot_fw (cs.drop k) a
    rw [← fw_drop] at f
    have w := fw_worth R a
    have r := rs_lt a (at0_get hk) (R.pos k _ (at0_get hk))
    omega
theorem fw_W {cs : List Int} (R : Row cs) (a : Int) : W (at0 cs) (at0 (fw cs a)) cs.length = a := by
  rw [← dot_all (fw_length _ _)]
  exact fw_worth R a
theorem fw_sm (cs : List Int) (a : Int) : (fw cs a).sum = sm cs.length (at0 (fw cs a)) := by rw [sum_all, fw_length]
/-- another such way is the first way -/
theorem fw_unique {cs : List Int} (R : Row cs) {V : Nat → Int} (g : Gr (at0 cs) cs.length V) : ∀ k, k < cs.length → V k = at0 (fw cs (W (at0 cs) V cs.length)) k := by
  have h0 : 0 ≤ W (at0 cs) V cs.length := sm_nonneg fun k hk => W_parts R.coins g.nn k hk
  exact gr_unique (fun k hk => R.coins.ge hk) g (fw_gr R h0) (fw_W R _).symm
theorem fw_unique_sum {cs : List Int} (R : Row cs) {V : Nat → Int} (g : Gr (at0 cs) cs.length V) : sm cs.length V = (fw cs (W (at0 cs) V cs.length)).sum := by
  rw [fw_sm]
  exact sm_congr (fw_unique R g)
/-- a trial, place by place -/
theorem triW_at {cs : List Int} {hi lo k : Nat} (hl : lo < cs.length) (hk : k < cs.length) : at0 (triW cs hi lo) k = tr lo (at0 (fw cs (cs.getD hi 0 - 1))) k := by
  have l := fw_length cs (cs.getD hi 0 - 1)
  unfold tr triW
  by_cases h1 : k < lo
  · rw [if_pos h1]
    refine at0_of ?_
    rw [List.getElem?_append_left (by rw [List.length_replicate]; exact h1), List.getElem?_replicate, if_pos h1]
  · rw [if_neg h1]
    refine at0_of ?_
    rw [List.getElem?_append_right (by rw [List.length_replicate]; omega), List.length_replicate]
    by_cases h2 : k = lo
    · subst h2
      rw [Nat.sub_self, one_same]
      rfl
    · have e : k - lo = (k - lo - 1) + 1 := by omega
      rw [e, List.getElem?_cons_succ, List.getElem?_drop, one_ne h2, show lo + 1 + (k - lo - 1) = k by omega, at0_get (by omega)]
      congr 1
      omega
/-- where any amount is wrong: a trial that is better, of the least wrong worth and as few pieces as any way of it has -/
theorem trials_complete {cs : List Int} (R : Row cs) {ws : List Int} (hl : ws.length = cs.length) (hn : ∀ v ∈ ws, 0 ≤ v) (hb : ws.sum < (fw cs (dot cs ws)).sum) :
    ∃ hi lo, lo < hi ∧ hi < cs.length ∧ better cs (tri cs hi lo) = true ∧ (tri cs hi lo).1 ≤ dot cs ws ∧
      (∀ us : List Int, us.length = cs.length → (∀ v ∈ us, 0 ≤ v) → dot cs us = (tri cs hi lo).1 → (tri cs hi lo).2.sum ≤ us.sum) ∧
      (∀ us : List Int, us.length = cs.length → (∀ v ∈ us, 0 ≤ v) → dot cs us < (tri cs hi lo).1 → (fw cs (dot cs us)).sum ≤ us.sum) := by
  have C := R.coins
  have dot0 : ∀ us : List Int, us.length = cs.length → (∀ v ∈ us, 0 ≤ v) → 0 ≤ dot cs us := fun us h1 h2 => by
    rw [dot_all h1]
    have n := nn_list h2
    rw [h1] at n
    exact sm_nonneg fun k hk => W_parts C n k hk
  obtain ⟨vs, ⟨v1, v2, v3⟩, vmin⟩ := exists_min (fun us : List Int => us.length = cs.length ∧ (∀ v ∈ us, 0 ≤ v) ∧ us.sum < (fw cs (dot cs us)).sum) (fun us => (dot cs us).toNat) ⟨ws, hl, hn, hb⟩
  have least : ∀ us : List Int, us.length = cs.length → (∀ v ∈ us, 0 ≤ v) → dot cs us < dot cs vs → (fw cs (dot cs us)).sum ≤ us.sum := fun us h1 h2 h3 => by
    by_cases h : us.sum < (fw cs (dot cs us)).sum
    · have a : (dot cs vs).toNat ≤ (dot cs us).toNat := vmin us ⟨h1, h2, h⟩
      have b := dot0 us h1 h2
      omega
    · omega
  have nv := nn_list v2
  rw [v1] at nv
  have dv := dot_all v1
  have sv := sum_all vs
  rw [v1] at sv
  have d0 := dot0 vs v1 v2
  obtain ⟨i, j, B, ji, i1, gB, wB, wT, oT⟩ := pearson C (w := dot cs vs) (V0 := at0 vs) (G := at0 (fw cs (dot cs vs))) nv dv.symm (fw_gr R d0) (fw_W R _) (by rw [← sv, ← fw_sm]; exact v3)
    (fun U G' nU gG e lt => by
      have a := least (ofF cs.length U) (ofF_len _ _) (ofF_nn nU) (by rw [ofF_dot]; exact lt)
      rw [ofF_dot, ofF_sum, e, ← fw_unique_sum R gG] at a
      exact a)
  have uB := fw_unique R gB
  rw [wB] at uB
  have jl : j < cs.length := by omega
  have eT : ∀ k, k < cs.length → tr j B k = at0 (triW cs (i + 1) j) k := fun k hk => by
    rw [triW_at jl hk]
    unfold tr
    by_cases h : k < j
    · rw [if_pos h, if_pos h]
    · rw [if_neg h, if_neg h, uB k hk]
  have w1 : (tri cs (i + 1) j).1 = dot cs vs := by
    show dot cs (triW cs (i + 1) j) = _
    rw [dot_all (triW_length jl), ← W_congr eT, wT]
  have s1 : (tri cs (i + 1) j).2.sum = sm cs.length (tr j B) := by
    show (triW cs (i + 1) j).sum = _
    rw [sum_all, triW_length jl]
    exact (sm_congr eT).symm
  have few : ∀ us : List Int, us.length = cs.length → (∀ v ∈ us, 0 ≤ v) → dot cs us = (tri cs (i + 1) j).1 → (tri cs (i + 1) j).2.sum ≤ us.sum := fun us h1 h2 h3 => by
    have n := nn_list h2
    rw [h1] at n
    have a := oT (at0 us) n (by rw [← dot_all h1, h3, w1])
    rw [s1, sum_all us, h1]
    exact a
  refine ⟨i + 1, j, by omega, i1, ?_, ?_, few, ?_⟩
  · have a := few vs v1 v2 w1.symm
    unfold better
    rw [w1]
    exact decide_eq_true (by omega)
  · rw [w1]
    have a := dot0 ws hl hn
    have b : (dot cs vs).toNat ≤ (dot cs ws).toNat := vmin ws ⟨hl, hn, hb⟩
    omega
  · rw [w1]
    exact least
/-! # The verdict: the first of the best trials -/
theorem lessR_iff (p b : Int × List Int) : lessR p b = true ↔ p.1 < b.1 ∨ (p.1 = b.1 ∧ p.2.sum < b.2.sum) := by
  unfold lessR
  by_cases h : p.1 = b.1
  · rw [if_pos h]
    by_cases h2 : p.2.sum = b.2.sum
    · rw [if_pos h2]
      constructor
      · intro z
        cases z
      · intro z
        omega
    · rw [if_neg h2, decide_eq_true_iff]
      omega
  · rw [if_neg h, decide_eq_true_iff]
    omega
/-- what holds of the best so far -/
def BestOf (cs : List Int) (l : List (Int × List Int)) : Option (Int × List Int) → Prop
  | none => ∀ x ∈ l, better cs x = false
  | some p => p ∈ l ∧ better cs p = true ∧ ∀ x ∈ l, better cs x = true → ¬ lessR x p = true
theorem best_step {cs : List Int} {l : List (Int × List Int)} {o : Option (Int × List Int)} (x : Int × List Int) (h : BestOf cs l o) : BestOf cs (l ++ [x]) (jstep cs o x) := by
  unfold jstep
  by_cases hb : better cs x = true
  · rw [if_pos hb]
    cases o with
    | none =>
      refine ⟨List.mem_append_right _ (List.mem_singleton.mpr rfl), hb, fun y hy hby => ?_⟩
      rcases List.mem_append.mp hy with hy | hy
      · rw [h y hy] at hby
        cases hby
      · rw [List.mem_singleton.mp hy, lessR_iff]
        omega
    | some b =>
      obtain ⟨h1, h2, h3⟩ := h
      show BestOf cs (l ++ [x]) (if lessR x b = true then some x else some b)
      by_cases hl : lessR x b = true
      · rw [if_pos hl]
        refine ⟨List.mem_append_right _ (List.mem_singleton.mpr rfl), hb, fun y hy hby => ?_⟩
        rcases List.mem_append.mp hy with hy | hy
        · have a := h3 y hy hby
          rw [lessR_iff] at a hl ⊢
          omega
        · rw [List.mem_singleton.mp hy, lessR_iff]
          omega
      · rw [if_neg hl]
        refine ⟨List.mem_append_left _ h1, h2, fun y hy hby => ?_⟩
        rcases List.mem_append.mp hy with hy | hy
        · exact h3 y hy hby
        · rw [List.mem_singleton.mp hy]
          exact hl
  · rw [if_neg hb]
    cases o with
    | none =>
      intro y hy
      rcases List.mem_append.mp hy with hy | hy
      · exact h y hy
      · rw [List.mem_singleton.mp hy]
        exact Bool.eq_false_iff.mpr hb
    | some b =>
      obtain ⟨h1, h2, h3⟩ := h
      refine ⟨List.mem_append_left _ h1, h2, fun y hy hby => ?_⟩
      rcases List.mem_append.mp hy with hy | hy
      · exact h3 y hy hby
      · rw [List.mem_singleton.mp hy] at hby
        exact absurd hby hb
theorem best_fold {cs : List Int} : ∀ (r l : List (Int × List Int)) (o : Option (Int × List Int)), BestOf cs l o → BestOf cs (l ++ r) (r.foldl (jstep cs) o)
  | [], l, o, h => by
    rw [List.append_nil]
    exact h
  | x :: r, l, o, h => by
    have e : l ++ x :: r = l ++ [x] ++ r := by rw [List.append_assoc]; rfl
    rw [e]
    exact best_fold r (l ++ [x]) _ (best_step x h)
theorem judged_best (cs : List Int) : BestOf cs (trialsL cs) (judgedM cs) := best_fold (trialsL cs) [] none (fun _ h => nomatch h)
/-- no verdict: no amount is wrong -/
theorem verdict_none {cs : List Int} (R : Row cs) (h : judgedM cs = none) {ws : List Int} (hl : ws.length = cs.length) (hn : ∀ v ∈ ws, 0 ≤ v) : (fw cs (dot cs ws)).sum ≤ ws.sum := by
  have b := judged_best cs
  rw [h] at b
  by_cases hb : ws.sum < (fw cs (dot cs ws)).sum
  · obtain ⟨hi, lo, h1, h2, h3, _⟩ := trials_complete R hl hn hb
    have z := b _ (mem_trials h1 h2)
    rw [h3] at z
    cases z
  · omega
structure Verdict (cs : List Int) (p : Int × List Int) : Prop where
  tr : ∃ hi lo, lo < hi ∧ hi < cs.length ∧ p = tri cs hi lo
  wrong : p.2.sum < (fw cs p.1).sum
  few : ∀ us : List Int, us.length = cs.length → (∀ v ∈ us, 0 ≤ v) → dot cs us = p.1 → p.2.sum ≤ us.sum
  least : ∀ us : List Int, us.length = cs.length → (∀ v ∈ us, 0 ≤ v) → dot cs us < p.1 → (fw cs (dot cs us)).sum ≤ us.sum
theorem verdict_some {cs : List Int} (R : Row cs) {p : Int × List Int} (h : judgedM cs = some p) : Verdict cs p := by
  have b := judged_best cs
  rw [h] at b
  obtain ⟨h1, h2, h3⟩ := b
  obtain ⟨hi, lo, k1, k2, e⟩ := trials_mem h1
  have wr : p.2.sum < (fw cs p.1).sum := of_decide_eq_true h2
  have ew : dot cs p.2 = p.1 := by rw [e]; rfl
  have el : p.2.length = cs.length := by rw [e]; exact triW_length (by omega)
  have en : ∀ v ∈ p.2, 0 ≤ v := by
    rw [e]
    exact fun v hv => (triW_mem R k1 k2 v hv).1
  obtain ⟨hi', lo', a1, a2, a3, a4, a5, a6⟩ := trials_complete R el en (by rw [ew]; exact wr)
  rw [ew] at a4
  have nl := h3 _ (mem_trials a1 a2) a3
  rw [lessR_iff] at nl
  have e1 : (tri cs hi' lo').1 = p.1 := by omega
  have e2 : p.2.sum ≤ (tri cs hi' lo').2.sum := by omega
  refine ⟨⟨hi, lo, k1, k2, e⟩, wr, fun us u1 u2 u3 => ?_, fun us u1 u2 u3 => ?_⟩
  · have := a5 us u1 u2 (by rw [e1]; exact u3)
    omega
  · exact a6 us u1 u2 (by rw [e1]; exact u3)
end Cj

namespace Cj
/-- a coin's own worth is given by that coin -/
theorem coin_one {cs : List Int} (R : Row cs) {k : Nat} (hk : k < cs.length) : (fw cs (at0 cs k)).sum = 1 := by
  have C := R.coins
  have g : Gr (at0 cs) cs.length (one k) := ⟨fun l hl => by
    by_cases e : l = k
    · rw [e, one_same]
      decide
    · rw [one_ne e]
      exact Int.le_refl _, fun l hl => by
    rw [W_one]
    by_cases e : k < l
    · rw [if_pos e]
      exact C.lt e hl
    · rw [if_neg e]
      have := C.ge hl
      omega⟩
  have a := fw_unique_sum R g
  rw [W_one, if_pos hk, P_one, if_pos hk] at a
  exact a.symm
theorem third_two {cs : List Int} (R : Row cs) (h : 2 < cs.length) (h3 : 3 < cs.length → at0 cs 2 + 1 < at0 cs 3) : (fw cs (at0 cs 2 + 1)).sum = 2 := by
  have C := R.coins
  have c0 := C.one
  have c1 : at0 cs 0 < at0 cs 1 := C.up 0 (by omega)
  have g : Gr (at0 cs) cs.length (fun k => one 0 k + one 2 k) := ⟨fun l hl => by
    show 0 ≤ one 0 l + one 2 l
    unfold one
    by_cases e : l = 0
    · rw [if_pos e, if_neg (by omega)]
      decide
    · rw [if_neg e]
      by_cases e2 : l = 2
      · rw [if_pos e2]
        decide
      · rw [if_neg e2]
        decide, fun l hl => by
    rw [W_add, W_one, W_one]
    by_cases e0 : l = 0
    · subst e0
      rw [if_neg (by omega), if_neg (by omega), c0]
      decide
    · rw [if_pos (by omega), c0]
      by_cases e2 : 2 < l
      · rw [if_pos e2]
        have := h3 (by omega)
        have := C.le (i := 3) (j := l) (by omega) hl
        omega
      · rw [if_neg e2]
        have := C.le (i := 1) (j := l) (by omega) hl
        omega⟩
  have a := fw_unique_sum R g
  rw [W_add, W_one, W_one, if_pos (by omega), if_pos h, c0, sm_add, P_one, P_one, if_pos (by omega), if_pos h] at a
  rw [show at0 cs 2 + 1 = 1 + at0 cs 2 by omega, ← a]
  rfl
theorem verdict_bounds {cs : List Int} (R : Row cs) {p : Int × List Int} (h : judgedM cs = some p) : 2 < cs.length ∧ cs.getD 2 0 + 1 < p.1 ∧ p.1 < cs.getD (cs.length - 1) 0 + cs.getD (cs.length - 2) 0 := by
  have V := verdict_some R h
  have C := R.coins
  obtain ⟨hi, lo, k1, k2, e⟩ := V.tr
  have ll : lo < cs.length := by omega
  have ew : p.1 = at0 cs lo + (at0 cs hi - 1) - rs (cs.drop lo) (cs.getD hi 0 - 1) := by
    rw [e]
    exact tri_worth (hi := hi) (at0_get ll)
  have r := rs_lt (cs.getD hi 0 - 1) (at0_get ll) (C.ge ll)
  have el : p.2.length = cs.length := by rw [e]; exact triW_length ll
  have en : ∀ v ∈ p.2, 0 ≤ v := by
    rw [e]
    exact fun v hv => (triW_mem R k1 k2 v hv).1
  have nn := nn_list en
  rw [el] at nn
  have eat : at0 p.2 lo = at0 (fw cs (cs.getD hi 0 - 1)) lo + 1 := by
    rw [e]
    show at0 (triW cs hi lo) lo = _
    rw [triW_at ll ll]
    unfold tr
    rw [if_neg (by omega), one_same]
  have ge1 : 0 ≤ at0 (fw cs (cs.getD hi 0 - 1)) lo := (fw_gr R (by have := C.ge k2; show 0 ≤ at0 cs hi - 1; omega)).nn lo ll
  have s1 : 1 ≤ p.2.sum := by
    rw [sum_all, el]
    have := sm_ge ll nn
    omega
  have wr := V.wrong
  have nocoin : ∀ k, k < cs.length → p.1 ≠ at0 cs k := fun k hk z => by
    rw [z, coin_one R hk] at wr
    omega
  have n3 : 2 < cs.length ∧ at0 cs 2 + 1 < p.1 := by
    rcases Nat.lt_or_ge hi 2 with h2 | h2
    · exfalso
      have e1 : hi = 1 := by omega
      have e0 : lo = 0 := by omega
      subst e1 e0
      rw [C.one] at ew r
      exact nocoin 1 k2 (by omega)
    · refine ⟨by omega, ?_⟩
      have c2 := C.le (i := 2) (j := hi) h2 k2
      by_cases hw : at0 cs 2 + 1 < p.1
      · exact hw
      · exfalso
        have n2 := nocoin 2 (by omega)
        have w3 : p.1 = at0 cs 2 + 1 := by omega
        have h3 : 3 < cs.length → at0 cs 2 + 1 < at0 cs 3 := fun z => by
          have a := C.up 2 (by omega)
          have b := nocoin 3 z
          have a' : at0 cs 2 < at0 cs 3 := a
          omega
        have e2 : hi = 2 := by
          by_cases z : hi = 2
          · exact z
          · have := C.le (i := 3) (j := hi) (by omega) k2
            have := h3 (by omega)
            omega
        subst e2
        have t := third_two R k2 h3
        rw [← w3] at t
        rw [t] at wr
        have s2 : sm cs.length (fun k => at0 p.2 k - one lo k) = 0 := by
          rw [P_less _ ll, ← el, ← sum_all]
          omega
        have z := sm_eq_zero (nn_less nn (j := lo) (by omega)) s2
        have w4 : W (at0 cs) (fun k => at0 p.2 k - one lo k) cs.length = 0 := sm_zero fun k hk => by
          have zk : at0 p.2 k - one lo k = 0 := z k hk
          show (at0 p.2 k - one lo k) * at0 cs k = 0
          rw [zk, Int.zero_mul]
        rw [W_less _ _ ll, ← dot_all el] at w4
        have w5 : dot cs p.2 = p.1 := by rw [e]; rfl
        exact nocoin lo ll (by omega)
  refine ⟨n3.1, n3.2, ?_⟩
  have a := C.le (i := hi) (j := cs.length - 1) (by omega) (by omega)
  have b := C.le (i := lo) (j := cs.length - 2) (by omega) (by omega)
  show p.1 < at0 cs (cs.length - 1) + at0 cs (cs.length - 2)
  omega
end Cj

namespace Cj
/-- what a comprehension with a test gives -/
def fm (f : Int → Int) (b : Int → Bool) (l : List Int) : List Int := (l.filter b).map f
theorem fm_yes {f : Int → Int} {b : Int → Bool} {l : List Int} {i : Nat} {x : Int} (h : l[i]? = some x) (hb : b x = true) : fm f b (l.take (i + 1)) = fm f b (l.take i) ++ [f x] := by
  unfold fm
  rw [take_at h, List.filter_append, List.map_append, List.filter_cons, if_pos hb]
  rfl
theorem fm_no {f : Int → Int} {b : Int → Bool} {l : List Int} {i : Nat} {x : Int} (h : l[i]? = some x) (hb : b x = false) : fm f b (l.take (i + 1)) = fm f b (l.take i) := by
  unfold fm
  rw [take_at h, List.filter_append, List.map_append, List.filter_cons, if_neg (by rw [hb]; decide)]
  exact List.append_nil _
theorem fm_mem {f : Int → Int} {b : Int → Bool} {l : List Int} {y : Int} : y ∈ fm f b l ↔ ∃ x, x ∈ l ∧ b x = true ∧ f x = y := by
  unfold fm
  rw [List.mem_map]
  constructor
  · rintro ⟨x, hx, e⟩
    rw [List.mem_filter] at hx
    exact ⟨x, hx.1, hx.2, e⟩
  · rintro ⟨x, h1, h2, e⟩
    exact ⟨x, List.mem_filter.mpr ⟨h1, h2⟩, e⟩
theorem fm_len (f : Int → Int) (b : Int → Bool) (l : List Int) : (fm f b l).length ≤ l.length := by
  unfold fm
  rw [List.length_map]
  exact List.length_filter_le _ _
/-- one piece less, one piece more, as lists -/
theorem less_list {cs ws : List Int} (hl : ws.length = cs.length) (hn : ∀ v ∈ ws, 0 ≤ v) {k : Nat} (hk : k < cs.length) (hp : 0 < at0 ws k) :
    ∃ us : List Int, us.length = cs.length ∧ (∀ v ∈ us, 0 ≤ v) ∧ dot cs us = dot cs ws - at0 cs k ∧ us.sum = ws.sum - 1 := by
  have nn := nn_list hn
  rw [hl] at nn
  refine ⟨ofF cs.length (fun l => at0 ws l - one k l), ofF_len _ _, ofF_nn (nn_less nn hp), ?_, ?_⟩
  · rw [ofF_dot, W_less _ _ hk, dot_all hl]
  · rw [ofF_sum, P_less _ hk, sum_all ws, hl]
theorem more_list {cs ws : List Int} (hl : ws.length = cs.length) (hn : ∀ v ∈ ws, 0 ≤ v) {k : Nat} (hk : k < cs.length) :
    ∃ us : List Int, us.length = cs.length ∧ (∀ v ∈ us, 0 ≤ v) ∧ dot cs us = dot cs ws + at0 cs k ∧ us.sum = ws.sum + 1 := by
  have nn := nn_list hn
  rw [hl] at nn
  refine ⟨ofF cs.length (fun l => at0 ws l + one k l), ofF_len _ _, ofF_nn (nn_more nn), ?_, ?_⟩
  · rw [ofF_dot, W_more _ _ hk, dot_all hl]
  · rw [ofF_sum, P_more _ hk, sum_all ws, hl]
theorem fw_nn {cs : List Int} (R : Row cs) {a : Int} (h : 0 ≤ a) : ∀ v ∈ fw cs a, 0 ≤ v := fun v hv => (fw_mem R.posM h v hv).1
theorem dot_nn {cs ws : List Int} (R : Row cs) (hl : ws.length = cs.length) (hn : ∀ v ∈ ws, 0 ≤ v) : 0 ≤ dot cs ws := by
  rw [dot_all hl]
  have n := nn_list hn
  rw [hl] at n
  exact sm_nonneg fun k hk => W_parts R.coins n k hk
/-- a way that is worth something has a piece of a coin that goes into it -/
theorem piece_list {cs ws : List Int} (R : Row cs) (hl : ws.length = cs.length) (hn : ∀ v ∈ ws, 0 ≤ v) (hw : dot cs ws ≠ 0) : ∃ k, k < cs.length ∧ 0 < at0 ws k ∧ at0 cs k ≤ dot cs ws := by
  have nn := nn_list hn
  rw [hl] at nn
  rw [dot_all hl] at hw ⊢
  obtain ⟨k, hk, pk⟩ := exists_piece nn hw
  refine ⟨k, hk, pk, ?_⟩
  have a := sm_ge (f := fun l => at0 ws l * at0 cs l) hk fun l hl => W_parts R.coins nn l hl
  have a' : at0 ws k * at0 cs k ≤ W (at0 cs) (at0 ws) cs.length := a
  have c1 := R.coins.ge hk
  have m : 1 * at0 cs k ≤ at0 ws k * at0 cs k := Int.mul_le_mul_of_nonneg_right (by omega) (by omega)
  omega
structure VerdictW (cs : List Int) (p : Int × List Int) : Prop where
  len : p.2.length = cs.length
  nn : ∀ v ∈ p.2, 0 ≤ v
  top : ∀ v ∈ p.2, v ≤ 10 ^ 60
  worth : dot cs p.2 = p.1
  pos : 1 ≤ p.1
  le : p.1 ≤ 2 * 10 ^ 60
theorem Verdict.way {cs : List Int} (R : Row cs) {p : Int × List Int} (V : Verdict cs p) : VerdictW cs p := by
  obtain ⟨hi, lo, k1, k2, e⟩ := V.tr
  have b := tri_bounds R k1 k2
  rw [← e] at b
  refine ⟨by rw [e]; exact triW_length (by omega), by rw [e]; exact fun v hv => (triW_mem R k1 k2 v hv).1, by rw [e]; exact fun v hv => (triW_mem R k1 k2 v hv).2, by rw [e]; rfl, b.1, b.2⟩
/-- the least that the shop gives of the amount less one coin, and one piece more -/
theorem verdict_least {cs : List Int} (R : Row cs) {p : Int × List Int} (V : Verdict cs p) {m : Int} (hm : m ∈ fm (fun c => (fw cs (p.1 - c)).sum) (fun c => decide (c ≤ p.1)) cs) (hle : ∀ y ∈ fm (fun c => (fw cs (p.1 - c)).sum) (fun c => decide (c ≤ p.1)) cs, m ≤ y) : p.2.sum = 1 + m := by
  have Y := V.way R
  have a : p.2.sum ≤ m + 1 := by
    obtain ⟨c, hc, hb, e⟩ := fm_mem.mp hm
    have hb' := of_decide_eq_true hb
    obtain ⟨k, hk⟩ := List.mem_iff_getElem?.mp hc
    have kl := (List.getElem?_eq_some_iff.mp hk).1
    obtain ⟨us, u1, u2, u3, u4⟩ := more_list (fw_length cs (p.1 - c)) (fw_nn R (by omega)) kl
    rw [fw_worth R, at0_of hk] at u3
    have := V.few us u1 u2 (by omega)
    have e' : (fw cs (p.1 - c)).sum = m := e
    omega
  have b : m + 1 ≤ p.2.sum := by
    obtain ⟨k, hk, pk, le⟩ := piece_list R Y.len Y.nn (by rw [Y.worth]; have := Y.pos; omega)
    rw [Y.worth] at le
    obtain ⟨us, u1, u2, u3, u4⟩ := less_list Y.len Y.nn hk pk
    rw [Y.worth] at u3
    have c1 := R.coins.ge hk
    have l := V.least us u1 u2 (by omega)
    rw [u3] at l
    have := hle _ (fm_mem.mpr ⟨at0 cs k, at0_mem hk, decide_eq_true le, rfl⟩)
    omega
  omega
theorem verdict_some_coin {cs : List Int} (R : Row cs) {p : Int × List Int} (V : Verdict cs p) : 0 < (fm (fun c => (fw cs (p.1 - c)).sum) (fun c => decide (c ≤ p.1)) cs).length := by
  have Y := V.way R
  have m : (fw cs (p.1 - 1)).sum ∈ fm (fun c => (fw cs (p.1 - c)).sum) (fun c => decide (c ≤ p.1)) cs := fm_mem.mpr ⟨1, List.mem_of_getElem? R.hd, decide_eq_true Y.pos, rfl⟩
  exact List.length_pos_of_mem m
end Cj

namespace Cj
open PySem
def top (i : Nat) : Stmt := PySem.Challenge.pw_coinjudge_k08_a_judge_through_deeds.main.body.getD i (.Pass ⟨0, 0, 0, 0⟩)
end Cj

namespace Cj
open PySem PySem.Spec PyProof.Rows L2
section
variable {P : Program} {w : World} {K : PySem.W.Frag} {mg : Str → Option Value} {base : Heap} {R W A G T' C D' : Addr} {nD : Str} {b1 b2 b3 b4 b5 : Bool}
abbrev s__law_kinds : Stmt := top 30
theorem sc__law_kinds : FnScope ["_law_e", "_law_some"] ["_law_e"] (defScope s__law_kinds) := ⟨rfl, rfl, rfl, by decide +kernel, rfl, by decide +kernel, by decide +kernel⟩

def spKinds (D : Addr) : Value → Option Addr → Hp → VK → Prop := fun cls d H Q => cls = .ref D ∧ d = none ∧ ∀ H', Same H H' → Q (.int 1) H'
theorem g_calP {σ : L2.St} {H : Hp} {Q : VK} {sp : Value → Option Addr → Hp → VK → Prop} {a : Addr} {cls : Value} {d : Option Addr} {te : TE} (h : te σ H fun v H1 => v = .ref a ∧ sp cls d H1 Q) : tCalP sp a cls d te σ H Q := h
theorem g_isX {H : Hp} {Q : VK} {D C a : Addr} {b : Bool} (e : ExcC K D) (k : PySem.W.kitOne K (.ref D) (.ref C) = some b) (q : Q (.bl b) H) : rIsX K (.ref D) none a [.ref a, .ref C] H Q := ⟨D, .ref C, .ref C, b, rfl, rfl, e, rfl, fun _ z => z, k, q⟩
theorem g_isXT {H : Hp} {Q : VK} {D a : Addr} {n : String} {b : Bool} (e : ExcC K D) (k : PySem.W.kitOne K (.ref D) (.type n) = some b) (q : Q (.bl b) H) : rIsX K (.ref D) none a [.ref a, .ty n] H Q := ⟨D, .ty n, .type n, b, rfl, rfl, e, rfl, fun _ z => z, k, q⟩
theorem ok_kinds {f : Addr} {fd : FuncData} (F : Fun K "_law_kinds" "_law_kinds" s__law_kinds f fd) (T : Bn mg) (D : ExD K mg R W A G T' C D' nD b1 b2 b3 b4 b5) : RunP P w K mg base 1 f fd ["_law_e"] (spKinds D') := by
  refine run_ofP F sc__law_kinds rfl fun o cls d cdv A0 outer s H Q hz hf hr h => ?_
  obtain ⟨rfl, rfl, q⟩ := h
  have gk_NoRow := D.nR
  have gk_NoWay := D.nW
  have gk_NoAmount := D.nA
  have gk_TooGreat := D.nG
  have gk_NoText := D.nT
  refine ⟨_, (pss_cons (ps_set (i := 1) sc__law_kinds.nd rfl (by first | exact Or.inl rfl | exact Or.inr rfl) (pe_lst (pa_cons (pe_callB (call_isX (K := K) (a := o.1) (o := o) rfl rfl List.mem_cons_self hz hf) (by rfl) T.m_isinstance (by decide +kernel) (pa_cons (pv 0) (pa_cons (pe_glob (v := .ref _) rfl gk_NoRow rfl) pa_nil))) (pa_cons (pe_callB (call_isX (K := K) (a := o.1) (o := o) rfl rfl List.mem_cons_self hz hf) (by rfl) T.m_isinstance (by decide +kernel) (pa_cons (pv 0) (pa_cons (pe_glob (v := .ref _) rfl gk_NoWay rfl) pa_nil))) (pa_cons (pe_callB (call_isX (K := K) (a := o.1) (o := o) rfl rfl List.mem_cons_self hz hf) (by rfl) T.m_isinstance (by decide +kernel) (pa_cons (pv 0) (pa_cons (pe_glob (v := .ref _) rfl gk_NoAmount rfl) pa_nil))) (pa_cons (pe_callB (call_isX (K := K) (a := o.1) (o := o) rfl rfl List.mem_cons_self hz hf) (by rfl) T.m_isinstance (by decide +kernel) (pa_cons (pv 0) (pa_cons (pe_glob (v := .ref _) rfl gk_TooGreat rfl) pa_nil))) pa_nil))))))
      (pss_one (ps_ret (pe_bm PySem.F.plainAttrs_list PySem.F.slot_list_count PySem.F.type_list_count mt_cntB (pe_op op_cat (pv 1) (pe_lst (pa_cons (pe_callB (call_isX (K := K) (a := o.1) (o := o) rfl rfl List.mem_cons_self hz hf) (by rfl) T.m_isinstance (by decide +kernel) (pa_cons (pv 0) (pa_cons (pe_glob (v := .ref _) rfl gk_NoText rfl) pa_nil))) pa_nil))) (pa_cons pe_bl pa_nil))))), ?_⟩
  try dsimp only [L2H.cxH, cxOf]
  refine g_start [some (.ref o.1), none] rfl ?_
  walk_at "go"
  refine g_isX D.ec D.q1 ?_
  walk_at "go"
  refine g_isX D.ec D.q2 ?_
  walk_at "go"
  refine g_isX D.ec D.q3 ?_
  walk_at "go"
  refine g_isX D.ec D.q4 ?_
  walk_at "go"
  refine ⟨small_le (by show 4 ≤ 100000; decide), fun p hp => ?_⟩
  walk_at "go"
  refine g_isX D.ec D.q5 ?_
  walk_at "go"
  refine ⟨small_le (by show 1 ≤ 100000; decide), fun l hl => ?_⟩
  have np : p ≠ l := ne_of_none upd_same hl
  have gp : (upd (upd H p (.lst [.bl b1, .bl b2, .bl b3, .bl b4])) l (.lst [.bl b5])) p = some (.lst [.bl b1, .bl b2, .bl b3, .bl b4]) := by
    rw [upd_ne np]
    exact upd_same
  refine g_cat gp upd_same (small_le (by show 5 ≤ 100000; decide)) fun m hm => ?_
  refine ⟨.inl ⟨rfl, _, SqL.of upd_same⟩, ?_⟩
  walk_at "go"
  refine ⟨m, [b1, b2, b3, b4, b5], rfl, rfl, SqL.of upd_same, ?_⟩
  rw [D.one]
  exact q _ fun b u z => by
    have z1 : b ≠ p := ne_of_none z hp
    have z2 : (upd H p (.lst [.bl b1, .bl b2, .bl b3, .bl b4])) b = some u := by rw [upd_ne z1]; exact z
    have z3 : b ≠ l := ne_of_none z2 hl
    have z4 : (upd (upd H p (.lst [.bl b1, .bl b2, .bl b3, .bl b4])) l (.lst [.bl b5])) b = some u := by rw [upd_ne z3]; exact z2
    rw [upd_ne (ne_of_none z4 hm)]
    exact z4
end
end Cj
namespace Cj
open PySem PySem.Spec PyProof.Rows L2
theorem pss_never {X : Cx} {ss : List Stmt} : PSs X ss (fun _ _ _ => False) := ⟨fun _ _ _ _ _ _ h => h.elim⟩
theorem g_callS {sp : Sp} {Ef : L2.St → XK} {tA : TA} {σ : L2.St} {H : Hp} {Q : VK} (h : tA σ H fun vs H1 => sp vs H1 Q (Ef σ)) : tCallS sp Ef tA σ H Q := h
theorem g_iteT {A B : Prop} (h : A) : if true = true then A else B := h
end Cj
namespace Cj
open PySem PySem.Spec PyProof.Rows L2
theorem kit_self {K : PySem.W.Frag} {D : Addr} : PySem.W.kitOne K (.ref D) (.ref D) = some true := if_pos (beq_self_eq_true _)
theorem kit_other {K : PySem.W.Frag} {D C : Addr} {b : Bool} (hne : (D == C) = false) (hd : PySem.W.hasDictIn K C = true) (ht : PySem.W.typeIn K (.ref C) = some (.type "type")) (h : PySem.W.subIn K (.ref D) (.ref C) = some b) : PySem.W.kitOne K (.ref D) (.ref C) = some b := by
  have e : (Value.ref D == Value.ref C) = false := by
    rw [Bool.eq_false_iff]
    intro z
    have q := Value.ref.inj (beq_iff_eq.mp z)
    rw [q, beq_self_eq_true] at hne
    cases hne
  obtain ⟨cd, hc, _⟩ := PySem.W.any_some hd
  have e2 : ((PySem.W.clsIn K C).isSome && PySem.W.typeIn K (.ref C) == some (.type "type")) = true := by
    rw [hc, ht] <;> rfl
  unfold PySem.W.kitOne
  rw [e, if_neg Bool.false_ne_true]
  show (if _ = true then _ else _) = _
  rw [if_pos e2]
  exact h
theorem kit_type {K : PySem.W.Frag} {D : Addr} {n : String} {b : Bool} (hm : PySem.W.kitMeta n = true) (h : PySem.W.subIn K (.ref D) (.type n) = some b) : PySem.W.kitOne K (.ref D) (.type n) = some b := by
  have e : (Value.ref D == Value.type n) = false := by
    rw [Bool.eq_false_iff]
    intro z
    cases (beq_iff_eq.mp z)
  unfold PySem.W.kitOne
  rw [e, if_neg Bool.false_ne_true]
  show (if _ = true then _ else _) = _
  rw [if_pos hm]
  exact h
section
variable {X : Cx} {k j : Nat} {x : Str} {ps : List Str} {sp : Sp} {e : Expr} {es : List Expr} {t : TA} {p pos : Pos}
/-- a def that may raise, called where it does not -/
theorem pe_calL (c : CalR X.prog X.w X.K X.mg X.base k x ps sp) (hr : Room j X.A) (hk : k ≤ j) (ha : PA X (e :: es) t) (hg : Gl X x := by rfl) (hdb : (x == ("__debug__" : Str)) = false := by decide)
    (he : starEach (e :: es) X.env = (false, eval e X.env) :: starEach es X.env := by rfl) (hpl : (backTo pos (starEach es X.env)).any (·.1) = false := by rfl) :
    PE X (.Call (.Name x p) (e :: es) [] pos) (tCall sp [] E0 t) := by
  obtain ⟨f, fd, F, hm, hkp, hb⟩ := c.ex
  exact pe_call F (hr.mono hk) hg hm hkp hb .nil passL ha hdb he hpl
end
end Cj

namespace Cj
theorem row_of {cs : List Int} (l : cs.length ≤ 12) (h : cs[0]? = some 1) (up : ∀ (i : Nat) (x y : Int), cs[i]? = some x → cs[i + 1]? = some y → x < y) (top : ∀ x, cs[cs.length - 1]? = some x → x ≤ 10 ^ 60) : Row cs where
  len := l
  hd := h
  up := up
  top := fun x hx => by
    obtain ⟨i, hi⟩ := List.mem_iff_getElem?.mp hx
    have li := (List.getElem?_eq_some_iff.mp hi).1
    have go : ∀ (d j : Nat) (y : Int), j = i + d → cs[j]? = some y → x ≤ y := by
      intro d
      induction d with
      | zero =>
        intro j y hj hy
        rw [hj, Nat.add_zero, hi] at hy
        cases hy
        exact Int.le_refl _
      | succ d ih =>
        intro j y hj hy
        have lj := (List.getElem?_eq_some_iff.mp hy).1
        have lp : i + d < cs.length := by omega
        have e := List.getElem?_eq_getElem lp
        have z1 := ih _ _ rfl e
        have z2 := up (i + d) _ y e (by rw [show i + d + 1 = j by omega]; exact hy)
        omega
    have ll : cs.length - 1 < cs.length := by omega
    have e := List.getElem?_eq_getElem ll
    have z1 := go (cs.length - 1 - i) _ _ (by omega) e
    have z2 := top _ e
    omega
end Cj
namespace Cj
open PySem PySem.Spec PyProof.Rows L2
section
variable {P : Program} {w : World} {K : PySem.W.Frag} {mg : Str → Option Value} {base : Heap} {R W A G T' C D' : Addr} {b1 b2 b3 b4 b5 : Bool}
abbrev s_good_row : Stmt := top 10
theorem sc_good_row : FnScope ["coins", "k"] ["coins"] (defScope s_good_row) := ⟨rfl, rfl, rfl, by decide +kernel, rfl, by decide +kernel, by decide +kernel⟩

def spGood (K : PySem.W.Frag) (D : Addr) : Sp := fun vs H Q E => ∃ (a : Addr) (cs : List Int), vs = [.ref a] ∧ SqL K H a (cs.map V.int) ∧ cs.length ≤ 1000 ∧ (Row cs → RetL cs H Q) ∧ (¬ Row cs → E (.ref D) none H)
theorem ok_good {f : Addr} {fd : FuncData} {tM tG : Tok} (F : Fun K "good_row" "good_row" s_good_row f fd) (T : Bn mg) (gc_MOST : mg "MOST" = some (.int 12 tM)) (gc_GREATEST : mg "GREATEST" = some (.int (10 ^ 60) tG)) (D : ExD K mg R W A G T' C D' "NoRow" b1 b2 b3 b4 b5) :
    FnOk P w K mg base (L2.CX P w) 1 f fd ["coins"] (spGood K D') := by
  refine F.okX sc_good_row (fun vs H Q E h => ?_) (fun cdv A0 outer s H vs Q E hr h => ?_)
  · obtain ⟨a, cs, rfl, _⟩ := h
    rfl
  · obtain ⟨a, cs, rfl, hA, hn, good, bad⟩ := h
    refine ⟨_, (pss_cons (ps_if (PW.pt (pw_or (pt_cmpR op_lt (pe_callB call_ln (by rfl) T.m_len PySem.boot_len (pa_cons (pv 0) pa_nil)) pe_int (nomark _)) (pw_or (pt_cmpR op_gt (pe_callB call_ln (by rfl) T.m_len PySem.boot_len (pa_cons (pv 0) pa_nil)) (pe_glob (v := .int _) rfl gc_MOST ⟨_, rfl⟩) (nomark _)) (pw_or1 (pt_cmpR op_ne (pe_ix ix_list (pv 0) pe_int (fun _ _ => rfl)) pe_int (nomark _)))))) (pss_one (ps_raise rfl (takes_of rfl rfl rfl rfl) (pmk_own PySem.F.excBase_ValueError D.ex D.nD D.ki (raises_own D.ri D.rt) rfl))) pss_nil)
      (pss_cons (ps_for (passes_of rfl) rfl (pi_range2 rfl T.m_range (pa_cons pe_int (pa_cons (pe_callB call_ln (by rfl) T.m_len PySem.boot_len (pa_cons (pv 0) pa_nil)) pa_nil))) (pg_name (i := 1) sc_good_row.nd rfl (by first | exact Or.inl rfl | exact Or.inr rfl)) (pss_one (ps_if (pt_cmpR op_le (pe_ix ix_list (pv 0) (pv 1) (fun _ _ => rfl)) (pe_ix ix_list (pv 0) (pe_op op_sub (pv 1) pe_int) (fun _ _ => rfl)) (nomark _)) (pss_one (ps_raise rfl (takes_of rfl rfl rfl rfl) (pmk_own PySem.F.excBase_ValueError D.ex D.nD D.ki (raises_own D.ri D.rt) rfl))) pss_nil)))
      (pss_cons (ps_if (pt_cmpR op_gt (pe_ix ix_list (pv 0) (pe_un un_neg pe_int) (fun _ _ => rfl)) (pe_glob (v := .int _) rfl gc_GREATEST ⟨_, rfl⟩) (nomark _)) (pss_one (ps_raise rfl (takes_of rfl rfl rfl rfl) (pmk_own PySem.F.excBase_ValueError D.ex D.nD D.ki (raises_own D.ri D.rt) rfl))) pss_nil)
      (pss_one (ps_ret (pe_callTy call_ls (by rfl) T.m_list (by decide +kernel) (pa_cons (pv 0) pa_nil))))))), ?_⟩
    try dsimp only [cxOf]
    refine g_start [some (.ref a), none] rfl ?_
    walk_at "go"
    refine g_iteD (fun c1 => ?_) (fun c1 => ?_)
    · exact bad fun r => by have := r.ne; omega
    walk_at "go"
    refine g_iteD (fun c2 => ?_) (fun c2 => ?_)
    · exact bad fun r => by have := r.len; omega
    walk_at "go"
    have l0 : 0 < cs.length := by omega
    have e0 := List.getElem?_eq_getElem l0
    refine g_ix hA (at_val (k := 0) e0) ?_
    walk_at "go"
    refine g_iteN (fun c3 => ?_) (fun c3 => ?_)
    · exact bad fun r => c3 (by have z := r.hd; rw [e0] at z; exact Option.some.inj z)
    have h1 : cs[0]? = some 1 := by rw [e0, c3]
    walk_at "go"
    refine f_R2 (lo := 1) (n := cs.length) (by omega) (fun i σ' H' => (∀ (k : Nat) (x y : Int), k < i → cs[k]? = some x → cs[k + 1]? = some y → x < y) ∧ ∃ v, σ' = [some (.ref a), v] ∧ H' = H) ⟨fun k x y hk => by omega, none, rfl, rfl⟩ ?_ ?_ ?_
    · rintro i σ' H' hi ⟨up, v, rfl, rfl⟩
      rw [show (1 : Int) + (i : Int) = ((i + 1 : Nat) : Int) by omega]
      have l1 : i + 1 < cs.length := by omega
      have e1 := List.getElem?_eq_getElem l1
      have e2 := List.getElem?_eq_getElem (show i < cs.length by omega)
      walk_at "go"
      refine g_ix hA (at_val e1) ?_
      walk_at "go"
      rw [show ((i + 1 : Nat) : Int) - 1 = (i : Int) by omega]
      refine g_ix hA (at_val e2) ?_
      walk_at "go"
      refine g_iteD (fun c4 => ?_) (fun c4 => ?_)
      · exact bad fun r => by have := r.up i _ _ e2 e1; omega
      walk_at "go"
      refine ⟨fun k x y hk hx hy => ?_, _, rfl, rfl⟩
      by_cases ek : k = i
      · subst ek
        rw [e2] at hx
        rw [e1] at hy
        cases hx
        cases hy
        omega
      · exact up k x y (by omega) hx hy
    · rintro σ' H' ⟨up, v, rfl, rfl⟩
      have ll : cs.length - 1 < cs.length := by omega
      have el := List.getElem?_eq_getElem ll
      have up' : ∀ (i : Nat) (x y : Int), cs[i]? = some x → cs[i + 1]? = some y → x < y := fun i x y hx hy => up i x y (by have := (List.getElem?_eq_some_iff.mp hy).1; omega) hx hy
      walk_at "go"
      refine g_ix hA (at_neg1 el) ?_
      walk_at "go"
      refine g_iteD (fun c5 => ?_) (fun c5 => ?_)
      · exact bad fun r => by have := r.top _ (List.getElem_mem ll); omega
      walk_at "go"
      refine g_lsN hA fun p H' hp s1 e => ?_
      exact good (row_of (by omega) h1 up' (fun x hx => by rw [el] at hx; cases hx; omega)) p H' hp s1 e
    · intro Q' q'
      walk_at "go"
      exact q'
end
end Cj

namespace Cj
open PySem PySem.Spec PyProof.Rows L2
section
variable {P : Program} {w : World} {K : PySem.W.Frag} {mg : Str → Option Value} {base : Heap}
abbrev s_worth : Stmt := top 13
theorem sc_worth : FnScope ["coins", "way", "total", "k"] ["coins", "way"] (defScope s_worth) := ⟨rfl, rfl, rfl, by decide +kernel, rfl, by decide +kernel, by decide +kernel⟩

def spWorth (K : PySem.W.Frag) : Sp := fun vs H Q _ => ∃ (a b : Addr) (cs ws : List Int), vs = [.ref a, .ref b] ∧ SqL K H a (cs.map V.int) ∧ SqL K H b (ws.map V.int) ∧ ws.length = cs.length ∧ cs.length ≤ 1000 ∧
  (∀ c ∈ cs, c.natAbs < 2 ^ 300) ∧ (∀ v ∈ ws, 0 ≤ v ∧ v.natAbs < 2 ^ 300) ∧ Q (.int (dot cs ws)) H
theorem ok_worth {f : Addr} {fd : FuncData} (F : Fun K "worth" "worth" s_worth f fd) (T : Bn mg) : FnOk P w K mg base CX0 1 f fd ["coins", "way"] (spWorth K) := by
  refine F.ok sc_worth (fun vs H Q E h => ?_) (fun cdv A outer s H vs Q E hr h => ?_)
  · obtain ⟨a, b, cs, ws, rfl, _⟩ := h
    rfl
  · obtain ⟨a, b, cs, ws, rfl, hA, hB, hl, hn, hc, hw, q⟩ := h
    refine ⟨_, (pss_cons (ps_if (pt_cmpR op_ne (pe_callB call_ln (by rfl) T.m_len PySem.boot_len (pa_cons (pv 1) pa_nil)) (pe_callB call_ln (by rfl) T.m_len PySem.boot_len (pa_cons (pv 0) pa_nil)) (nomark _)) (pss_one ps_never) pss_nil)
      (pss_cons (ps_set (i := 2) sc_worth.nd rfl (by first | exact Or.inl rfl | exact Or.inr rfl) pe_int)
      (pss_cons (ps_for PassesOwn.never rfl (pi_range1 rfl T.m_range (pa_cons (pe_callB call_ln (by rfl) T.m_len PySem.boot_len (pa_cons (pv 0) pa_nil)) pa_nil)) (pg_name (i := 3) sc_worth.nd rfl (by first | exact Or.inl rfl | exact Or.inr rfl)) (pss_cons (ps_if (pt_cmpR op_lt (pe_ix ix_list (pv 1) (pv 3) (fun _ _ => rfl)) pe_int (nomark _)) (pss_one ps_never) pss_nil)
      (pss_one (ps_set (i := 2) sc_worth.nd rfl (by first | exact Or.inl rfl | exact Or.inr rfl) (pe_op op_add (pv 2) (pe_op op_mulW (pe_ix ix_list (pv 0) (pv 3) (fun _ _ => rfl)) (pe_ix ix_list (pv 1) (pv 3) (fun _ _ => rfl))))))))
      (pss_one (ps_ret (pv 2)))))), ?_⟩
    try dsimp only [cxOf]
    refine g_start [some (.ref a), some (.ref b), none, none] rfl ?_
    walk_at "go"
    refine g_iteN (fun hne => absurd (by omega) hne) (fun _ => ?_)
    walk_at "go"
    refine f_R1 (n := cs.length) (by omega) (fun i σ' H' => ∃ v, σ' = [some (.ref a), some (.ref b), some (.int (dot (cs.take i) (ws.take i))), v] ∧ H' = H) ⟨none, rfl, rfl⟩ ?_ ?_ ?_
    · rintro i σ' H' hi ⟨v, rfl, rfl⟩
      have h1 : i < cs.length := by omega
      have h2 : i < ws.length := by omega
      have e1 := List.getElem?_eq_getElem h1
      have e2 := List.getElem?_eq_getElem h2
      have w2 := hw _ (List.getElem_mem h2)
      walk_at "go"
      refine g_ix hB (at_val e2) ?_
      walk_at "go"
      refine g_iteD (fun z => absurd w2.1 (by omega)) (fun _ => ?_)
      walk_at "go"
      refine g_ix hA (at_val e1) ?_
      walk_at "go"
      refine g_ix hB (at_val e2) ?_
      walk_at "go"
      refine g_I (wide_mul (hc _ (List.getElem_mem h1)) w2.2 (by decide) (by decide) (by decide)) ?_
      walk_at "go"
      exact ⟨_, by rw [dot_take e1 e2]; rfl, rfl⟩
    · rintro σ' H' ⟨v, rfl, rfl⟩
      walk_at "go"
      have e1 : cs.take (cs.length : Int).toNat = cs := List.take_of_length_le (by omega)
      have e2 : ws.take (cs.length : Int).toNat = ws := List.take_of_length_le (by omega)
      rw [e1, e2]
      exact q
    · intro Q' q'
      walk_at "go"
      exact q'
end
end Cj
namespace Cj
open PySem PySem.Spec PyProof.Rows L2
section
variable {P : Program} {w : World} {K : PySem.W.Frag} {mg : Str → Option Value} {base : Heap}
abbrev s_pieces : Stmt := top 14
theorem sc_pieces : FnScope ["way"] ["way"] (defScope s_pieces) := ⟨rfl, rfl, rfl, by decide +kernel, rfl, by decide +kernel, by decide +kernel⟩

def spPieces (K : PySem.W.Frag) : Sp := fun vs H Q _ => ∃ (a : Addr) (ws : List Int), vs = [.ref a] ∧ SqL K H a (ws.map V.int) ∧ Q (.int ws.sum) H
theorem ok_pieces {f : Addr} {fd : FuncData} (F : Fun K "pieces" "pieces" s_pieces f fd) (T : Bn mg) : FnOk P w K mg base CX0 1 f fd ["way"] (spPieces K) := by
  refine F.ok sc_pieces (fun vs H Q E h => ?_) (fun cdv A outer s H vs Q E hr h => ?_)
  · obtain ⟨a, ws, rfl, _⟩ := h
    rfl
  · obtain ⟨a, ws, rfl, hA, q⟩ := h
    refine ⟨_, (pss_one (ps_ret (pe_callB (cr_sum rfl) (by rfl) T.m_sum (by decide +kernel) (pa_cons (pv 0) pa_nil)))), ?_⟩
    try dsimp only [cxOf]
    refine g_start [some (.ref a)] rfl ?_
    walk_at "go"
    exact g_sum hA q
end
end Cj
namespace Cj
open PySem PySem.Spec PyProof.Rows L2
section
variable {P : Program} {w : World} {K : PySem.W.Frag} {mg : Str → Option Value} {base : Heap}
abbrev s_need_amount : Stmt := top 15
theorem sc_need_amount : FnScope ["amount"] ["amount"] (defScope s_need_amount) := ⟨rfl, rfl, rfl, by decide +kernel, rfl, by decide +kernel, by decide +kernel⟩

def spNeed : Sp := fun vs H Q _ => ∃ m : Int, vs = [.int m] ∧ 0 ≤ m ∧ m ≤ 10 ^ 80 ∧ Q .non H
theorem ok_need {f : Addr} {fd : FuncData} {tM : Tok} (F : Fun K "need_amount" "need_amount" s_need_amount f fd) (gc_MOST_AMOUNT : mg "MOST_AMOUNT" = some (.int (10 ^ 80) tM)) : FnOk P w K mg base CX0 1 f fd ["amount"] spNeed := by
  refine F.ok sc_need_amount (fun vs H Q E h => ?_) (fun cdv A outer s H vs Q E hr h => ?_)
  · obtain ⟨m, rfl, _⟩ := h
    rfl
  · obtain ⟨m, rfl, h0, h1, q⟩ := h
    refine ⟨_, (pss_one (ps_if (PW.pt (pw_or (pt_cmpR op_lt (pv 0) pe_int (nomark _)) (pw_or1 (pt_cmpR op_gt (pv 0) (pe_glob (v := .int _) rfl gc_MOST_AMOUNT ⟨_, rfl⟩) (nomark _))))) (pss_one ps_never) pss_nil)), ?_⟩
    try dsimp only [cxOf]
    refine g_start [some (.int m)] rfl ?_
    walk_at "go"
    refine g_iteD (fun z => absurd z (by omega)) (fun _ => ?_)
    walk_at "go"
    refine g_iteD (fun z => absurd z (by omega)) (fun _ => ?_)
    walk_at "go"
    exact q
end
end Cj
namespace Cj
open PySem PySem.Spec PyProof.Rows L2
section
variable {P : Program} {w : World} {K : PySem.W.Frag} {mg : Str → Option Value} {base : Heap}
abbrev s_first_way : Stmt := top 16
theorem sc_first_way : FnScope ["coins", "amount", "way", "coin", "due", "k"] ["coins", "amount"] (defScope s_first_way) := ⟨rfl, rfl, rfl, by decide +kernel, rfl, by decide +kernel, by decide +kernel⟩

def spFirst (K : PySem.W.Frag) : Sp := fun vs H Q _ => ∃ (a : Addr) (cs : List Int) (m : Int), vs = [.ref a, .int m] ∧ SqL K H a (cs.map V.int) ∧ Row cs ∧ 0 ≤ m ∧ m ≤ 10 ^ 80 ∧ RetL (fw cs m) H Q
theorem ok_first {f : Addr} {fd : FuncData} (F : Fun K "first_way" "first_way" s_first_way f fd) (T : Bn mg) (c_need_amount : Cal P w K mg base 1 "need_amount" ["amount"] spNeed) : FnOk P w K mg base CX0 2 f fd ["coins", "amount"] (spFirst K) := by
  refine F.ok sc_first_way (fun vs H Q E h => ?_) (fun cdv A outer s H vs Q E hr h => ?_)
  · obtain ⟨a, cs, m, rfl, _⟩ := h
    rfl
  · obtain ⟨a, cs, m, rfl, hA, R, h0, h1, q⟩ := h
    refine ⟨_, (pss_cons (ps_expr (pe_cal c_need_amount hr (by decide) (pa_cons (pv 1) pa_nil)))
      (pss_cons (ps_setLc (i := 2) (own := [("coin", 3)]) (g := gName 3) (tt := tYes) (by rfl) sc_first_way.nd rfl rfl (sw_true rfl rfl rfl (by decide +kernel)) (pi_list (pv 0)) (blkOk_by (own := [("coin", 3)]) (N := ["coins", "amount", "way", "coin", "due", "k"]) (sc := defScope s_first_way) (by decide +kernel)) (fun _ _ _ _ _ => pg_name (i := 3) sc_first_way.nd rfl (Or.inl rfl)) (fun _ _ _ _ _ => pts_nil) (fun _ _ _ _ _ => pe_int))
      (pss_cons (ps_set (i := 4) sc_first_way.nd rfl (by first | exact Or.inl rfl | exact Or.inr rfl) (pv 1))
      (pss_cons (ps_for PassesOwn.never rfl (pi_range3 rfl T.m_range (pa_cons (pe_op op_sub (pe_callB call_ln (by rfl) T.m_len PySem.boot_len (pa_cons (pv 0) pa_nil)) pe_int) (pa_cons (pe_un un_neg pe_int) (pa_cons (pe_un un_neg pe_int) pa_nil)))) (pg_name (i := 5) sc_first_way.nd rfl (by first | exact Or.inl rfl | exact Or.inr rfl)) (pss_cons (ps_asg (pe_op op_fdivW (pv 4) (pe_ix ix_list (pv 0) (pv 5) (fun _ _ => rfl))) (pg_sub (pv 2) (pv 5) set_list))
      (pss_one (ps_set (i := 4) sc_first_way.nd rfl (by first | exact Or.inl rfl | exact Or.inr rfl) (pe_op op_sub (pv 4) (pe_op op_mulW (pe_ix ix_list (pv 2) (pv 5) (fun _ _ => rfl)) (pe_ix ix_list (pv 0) (pv 5) (fun _ _ => rfl))))))))
      (pss_one (ps_ret (pv 2))))))), ?_⟩
    try dsimp only [cxOf]
    refine g_start [some (.ref a), some (.int m), none, none, none, none] rfl ?_
    walk_at "go"
    refine ⟨m, rfl, h0, h1, ?_⟩
    walk_at "go"
    have hlen : cs.length ≤ 12 := R.len
    have hpos : ∀ c ∈ cs, 1 ≤ c := R.posM
    refine g_lcL (xs := cs.map V.int) (fun i => List.replicate i (V.int 0)) rfl hA (fun _ => rfl) ?_ ?_ ?_
    · intro i x D hi hD hS
      have hi' : i < cs.length := by
        have z := (List.getElem?_eq_some_iff.mp hi).1
        rw [List.length_map] at z
        exact z
      walk_at "go"
      exact lc_end (G := fun i => List.replicate i (V.int 0)) (small_lt (by rw [List.length_replicate]; omega)) List.replicate_succ'
    · intro p hp
      have hA1 : ∀ xs, SqL K (upd H p (.lst xs)) a (cs.map V.int) := fun xs => (same_new hp).seq hA
      walk_at "go"
      refine f_Dn (n := cs.length) (by omega) (fun k σ' H' => ∃ v, σ' = [some (.ref a), some (.int m), some (.ref p), none, some (.int (rs (cs.drop k) m)), v] ∧ H' = upd H p (LI (List.replicate k 0 ++ fw (cs.drop k) m))) ⟨none, ?_, ?_⟩ ?_ ?_ ?_
      · rw [List.drop_length]
        rfl
      · rw [List.drop_length, LI_len]
        show _ = upd H p (LI (List.replicate cs.length 0 ++ []))
        rw [List.append_nil]
        show _ = upd H p (.lst ((List.replicate cs.length (0 : Int)).map V.int))
        rw [List.map_replicate]
      · rintro k σ' H' hk ⟨v, rfl, rfl⟩
        have e1 := List.getElem?_eq_getElem hk
        have p1 := hpos _ (List.getElem_mem hk)
        have p2 := R.top _ (List.getElem_mem hk)
        have b := rs_bounds (cs := cs.drop (k + 1)) (a := m) (fun c hc => hpos c (List.mem_of_mem_drop hc)) h0
        walk_at "go"
        refine g_ix (hA1 _) (at_val e1) ?_
        walk_at "go"
        refine g_I (wide_div (b := 300) (by omega) (by omega) (by decide) (by decide)) ?_
        walk_at "go"
        refine g_setL upd_same (ixN_nat (j := k) ?_) ?_
        · rw [LI_len, List.length_append, List.length_replicate]
          omega
        rw [LI_set, upd_upd, fw_turn m e1]
        walk_at "go"
        have e2 : (List.replicate k 0 ++ fw (cs.drop k) m)[k]? = some (rs (cs.drop (k + 1)) m / cs[k]) := by
          rw [drop_at e1, List.getElem?_append_right (by rw [List.length_replicate]; exact Nat.le_refl _), List.length_replicate, Nat.sub_self]
          rfl
        refine g_ix (sq_of upd_same) (at_val e2) ?_
        walk_at "go"
        refine g_ix (hA1 _) (at_val e1) ?_
        walk_at "go"
        have b2 : 0 ≤ rs (cs.drop (k + 1)) m / cs[k] := Int.ediv_nonneg b.1 (by omega)
        have b3 : rs (cs.drop (k + 1)) m / cs[k] ≤ rs (cs.drop (k + 1)) m := Int.ediv_le_self _ b.1
        refine g_I (wide_mul (a := 300) (b := 300) (by omega) (by omega) (by decide) (by decide) (by decide)) ?_
        walk_at "go"
        exact ⟨_, by rw [rs_turn m e1]; rfl, rfl⟩
      · rintro σ' H' ⟨v, rfl, rfl⟩
        walk_at "go"
        exact q p _ hp (same_new hp) upd_same
      · intro Q' q'
        walk_at "go"
        refine g_lnI (hA1 _) ?_
        walk_at "go"
        exact q'
    · intro Q' q'
      walk_at "go"
      exact q'
end
end Cj
namespace Cj
open PySem PySem.Spec PyProof.Rows L2
section
variable {P : Program} {w : World} {K : PySem.W.Frag} {mg : Str → Option Value} {base : Heap}
abbrev s_trial : Stmt := top 18
theorem sc_trial : FnScope ["coins", "high", "low", "way", "k"] ["coins", "high", "low"] (defScope s_trial) := ⟨rfl, rfl, rfl, by decide +kernel, rfl, by decide +kernel, by decide +kernel⟩

def spTrial (K : PySem.W.Frag) : Sp := fun vs H Q _ => ∃ (a : Addr) (cs : List Int) (hi lo : Nat), vs = [.ref a, .int (hi : Int), .int (lo : Int)] ∧ SqL K H a (cs.map V.int) ∧ Row cs ∧ lo < hi ∧ hi < cs.length ∧ RetL (triW cs hi lo) H Q
theorem ok_trial {f : Addr} {fd : FuncData} (F : Fun K "trial" "trial" s_trial f fd) (T : Bn mg) (c_first_way : Cal P w K mg base 2 "first_way" ["coins", "amount"] (spFirst K)) : FnOk P w K mg base CX0 3 f fd ["coins", "high", "low"] (spTrial K) := by
  refine F.ok sc_trial (fun vs H Q E h => ?_) (fun cdv A outer s H vs Q E hr h => ?_)
  · obtain ⟨a, cs, hi, lo, rfl, _⟩ := h
    rfl
  · obtain ⟨a, cs, hi, lo, rfl, hA, R, hl, hh, q⟩ := h
    refine ⟨_, (pss_cons (ps_if (PW.pt (pw_or (pt_cmpR op_lt (pv 2) pe_int (nomark _)) (pw_or (pt_cmpR op_ge (pv 2) (pv 1) (nomark _)) (pw_or1 (pt_cmpR op_ge (pv 1) (pe_callB call_ln (by rfl) T.m_len PySem.boot_len (pa_cons (pv 0) pa_nil)) (nomark _)))))) (pss_one ps_never) pss_nil)
      (pss_cons (ps_set (i := 3) sc_trial.nd rfl (by first | exact Or.inl rfl | exact Or.inr rfl) (pe_cal c_first_way hr (by decide) (pa_cons (pv 0) (pa_cons (pe_op op_sub (pe_ix ix_list (pv 0) (pv 1) (fun _ _ => rfl)) pe_int) pa_nil))))
      (pss_cons (ps_for PassesOwn.never rfl (pi_range1 rfl T.m_range (pa_cons (pv 2) pa_nil)) (pg_name (i := 4) sc_trial.nd rfl (by first | exact Or.inl rfl | exact Or.inr rfl)) (pss_one (ps_asg pe_int (pg_sub (pv 3) (pv 4) set_list))))
      (pss_cons (ps_asg (pe_op op_add (pe_ix ix_list (pv 3) (pv 2) (fun _ _ => rfl)) pe_int) (pg_sub (pv 3) (pv 2) set_list))
      (pss_one (ps_ret (pv 3))))))), ?_⟩
    try dsimp only [cxOf]
    refine g_start [some (.ref a), some (.int hi), some (.int lo), none, none] rfl ?_
    walk_at "go"
    refine g_iteD (fun z => absurd z (by omega)) (fun _ => ?_)
    walk_at "go"
    refine g_iteD (fun z => absurd z (by omega)) (fun _ => ?_)
    walk_at "go"
    refine g_iteD (fun z => absurd z (by omega)) (fun _ => ?_)
    walk_at "go"
    have eh := List.getElem?_eq_getElem hh
    have g : cs.getD hi 0 = cs[hi] := by rw [List.getD_eq_getElem?_getD, eh]; rfl
    have p1 := R.pos hi _ eh
    have p2 := R.top _ (List.getElem_mem hh)
    refine g_ix hA (at_val eh) ?_
    walk_at "go"
    refine ⟨a, cs, _, rfl, hA, R, by omega, by omega, fun p H1 hp s1 e1 => ?_⟩
    have hA1 : ∀ o, SqL K (upd H1 p o) a (cs.map V.int) := fun o => (same_mut s1 hp).seq hA
    have hw : lo < (fw cs (cs[hi] - 1)).length := by rw [fw_length]; omega
    walk_at "go"
    refine f_R1 (n := lo) (by have := R.len; omega) (fun i σ' H' => ∃ v, σ' = [some (.ref a), some (.int hi), some (.int lo), some (.ref p), v] ∧ H' = upd H1 p (LI (List.replicate i 0 ++ (fw cs (cs[hi] - 1)).drop i))) ⟨none, rfl, ?_⟩ ?_ ?_ ?_
    · exact (upd_self e1).symm
    · rintro i σ' H' hi' ⟨v, rfl, rfl⟩
      have hi2 : i < (fw cs (cs[hi] - 1)).length := by omega
      walk_at "go"
      refine g_setL upd_same (ixN_nat (j := i) ?_) ?_
      · rw [LI_len, List.length_append, List.length_replicate, List.length_drop]
        omega
      rw [LI_set, upd_upd, zero_turn hi2]
      exact ⟨_, rfl, rfl⟩
    · rintro σ' H' ⟨v, rfl, rfl⟩
      rw [Int.toNat_natCast]
      walk_at "go"
      refine g_ix (sq_of upd_same) (at_val (zero_at hw)) ?_
      walk_at "go"
      refine g_setL upd_same (ixN_nat (j := lo) ?_) ?_
      · rw [LI_len, List.length_append, List.length_replicate, List.length_drop]
        omega
      rw [LI_set, upd_upd, zero_put hw]
      walk_at "go"
      refine q p _ hp (same_mut s1 hp) ?_
      rw [upd_same]
      unfold triW
      rw [g]
    · intro Q' q'
      walk_at "go"
      exact q'
end
end Cj
namespace Cj
open PySem PySem.Spec PyProof.Rows L2
section
variable {P : Program} {w : World} {K : PySem.W.Frag} {mg : Str → Option Value} {base : Heap}
abbrev s_trials : Stmt := top 19
theorem sc_trials : FnScope ["coins", "found", "high", "low", "way"] ["coins"] (defScope s_trials) := ⟨rfl, rfl, rfl, by decide +kernel, rfl, by decide +kernel, by decide +kernel⟩

/-- at l the list of the pairs ps: tuples at ts, ways at ws, all new behind H0 -/
structure PairsAt (H0 H : Hp) (l : Addr) (ps : List (Int × List Int)) (ts ws : List Addr) : Prop where
  lst : H l = some (.lst (ts.map V.ref))
  lt : ts.length = ps.length
  lw : ws.length = ps.length
  nd : ws.Nodup
  nl : ∀ q ∈ ws, q ≠ l
  new : ∀ q ∈ ws, H0 q = none
  newT : ∀ q ∈ ts, H0 q = none
  at_ : ∀ (i : Nat) (p : Int × List Int), ps[i]? = some p → ∃ t q, ts[i]? = some t ∧ ws[i]? = some q ∧ H t = some (.tup [.int p.1, .ref q]) ∧ H q = some (LI p.2)
theorem PairsAt.mono {H0 H H' : Hp} {l : Addr} {ps : List (Int × List Int)} {ts ws : List Addr} (p : PairsAt H0 H l ps ts ws) (s : Same H H') : PairsAt H0 H' l ps ts ws :=
  ⟨s _ _ p.lst, p.lt, p.lw, p.nd, p.nl, p.new, p.newT, fun i x h => by
    obtain ⟨t, q, a, b, c, d⟩ := p.at_ i x h
    exact ⟨t, q, a, b, s _ _ c, s _ _ d⟩⟩
theorem PairsAt.nil {H0 H : Hp} {l : Addr} (h : H l = some (.lst [])) : PairsAt H0 H l [] [] [] :=
  ⟨h, rfl, rfl, List.nodup_nil, (fun _ h => nomatch h), (fun _ h => nomatch h), (fun _ h => nomatch h), fun i x h => nomatch h⟩
theorem PairsAt.push {H0 H H1 : Hp} {l q t : Addr} {ps : List (Int × List Int)} {ts ws : List Addr} {p : Int × List Int} (P : PairsAt H0 H l ps ts ws) (s0 : Same H0 H) (nq : H q = none) (s1 : Same H H1) (hq : H1 q = some (LI p.2)) (nt : H1 t = none) :
    PairsAt H0 (upd (upd H1 t (.tup [.int p.1, .ref q])) l (.lst (ts.map V.ref ++ [.ref t]))) l (ps ++ [p]) (ts ++ [t]) (ws ++ [q]) := by
  have hl1 := s1 _ _ P.lst
  have tl : t ≠ l := fun e => by
    rw [e, hl1] at nt
    cases nt
  have ql : q ≠ l := fun e => by
    rw [e, P.lst] at nq
    cases nq
  have qt : q ≠ t := fun e => by
    rw [← e, hq] at nt
    cases nt
  have mw : ∀ x ∈ ws, ∃ o, H x = some o := fun x hx => by
    obtain ⟨i, hi⟩ := List.mem_iff_getElem?.mp hx
    have hl : i < ps.length := by
      have := (List.getElem?_eq_some_iff.mp hi).1
      rw [P.lw] at this
      exact this
    obtain ⟨t', q', _, b, _, d⟩ := P.at_ i _ (List.getElem?_eq_getElem hl)
    rw [hi] at b
    cases b
    exact ⟨_, d⟩
  refine ⟨?_, by rw [List.length_append, List.length_append, P.lt]; rfl, by rw [List.length_append, List.length_append, P.lw]; rfl, ?_, ?_, ?_, ?_, ?_⟩
  · rw [upd_same, List.map_append]
    rfl
  · refine List.nodup_append.mpr ⟨P.nd, List.nodup_cons.mpr ⟨(fun h => nomatch h), List.nodup_nil⟩, fun x hx y hy e => ?_⟩
    have ey : y = q := List.mem_singleton.mp hy
    obtain ⟨o, ho⟩ := mw x hx
    rw [e, ey, nq] at ho
    cases ho
  · intro x hx
    rcases List.mem_append.mp hx with hx | hx
    · exact P.nl x hx
    · rw [List.mem_singleton.mp hx]
      exact ql
  · intro x hx
    rcases List.mem_append.mp hx with hx | hx
    · exact P.new x hx
    · rw [List.mem_singleton.mp hx]
      exact s0.free nq
  · intro x hx
    rcases List.mem_append.mp hx with hx | hx
    · exact P.newT x hx
    · rw [List.mem_singleton.mp hx]
      exact s0.free (s1.free nt)
  · intro i x h
    by_cases hi : i < ps.length
    · rw [List.getElem?_append_left hi] at h
      obtain ⟨t', q', a, b, c, d⟩ := P.at_ i x h
      have c1 := s1 _ _ c
      have d1 := s1 _ _ d
      have m : q' ∈ ws := List.mem_of_getElem? b
      refine ⟨t', q', ?_, ?_, ?_, ?_⟩
      · rw [List.getElem?_append_left (by rw [P.lt]; exact hi)]
        exact a
      · rw [List.getElem?_append_left (by rw [P.lw]; exact hi)]
        exact b
      · rw [upd_ne (ne_of c1 hl1 (by intro z; cases z)), upd_ne (ne_of_none c1 nt)]
        exact c1
      · rw [upd_ne (P.nl _ m), upd_ne (ne_of_none d1 nt)]
        exact d1
    · have hi2 : i = ps.length := by
        have := (List.getElem?_eq_some_iff.mp h).1
        rw [List.length_append] at this
        have e1 : ([p] : List (Int × List Int)).length = 1 := rfl
        omega
      subst hi2
      rw [List.getElem?_append_right (Nat.le_refl _), Nat.sub_self] at h
      have e : p = x := Option.some.inj h
      subst e
      refine ⟨t, q, ?_, ?_, ?_, ?_⟩
      · rw [List.getElem?_append_right (by rw [P.lt]; exact Nat.le_refl _), P.lt, Nat.sub_self]
        rfl
      · rw [List.getElem?_append_right (by rw [P.lw]; exact Nat.le_refl _), P.lw, Nat.sub_self]
        rfl
      · rw [upd_ne tl, upd_same]
      · rw [upd_ne ql, upd_ne qt]
        exact hq
def spTrials (K : PySem.W.Frag) : Sp := fun vs H Q _ => ∃ (a : Addr) (cs : List Int), vs = [.ref a] ∧ SqL K H a (cs.map V.int) ∧ Row cs ∧
  ∀ (l : Addr) (H' : Hp) (ts ws : List Addr), H l = none → Same H H' → PairsAt H H' l (trialsL cs) ts ws → Q (.ref l) H'
theorem ok_trials {f : Addr} {fd : FuncData} (F : Fun K "trials" "trials" s_trials f fd) (T : Bn mg) (c_trial : Cal P w K mg base 3 "trial" ["coins", "high", "low"] (spTrial K)) (c_worth : Cal P w K mg base 1 "worth" ["coins", "way"] (spWorth K)) :
    FnOk P w K mg base CX0 4 f fd ["coins"] (spTrials K) := by
  refine F.ok sc_trials (fun vs H Q E h => ?_) (fun cdv A outer s H vs Q E hr h => ?_)
  · obtain ⟨a, cs, rfl, _⟩ := h
    rfl
  · obtain ⟨a, cs, rfl, hA, R, q⟩ := h
    refine ⟨_, (pss_cons (ps_set (i := 1) sc_trials.nd rfl (by first | exact Or.inl rfl | exact Or.inr rfl) (pe_lst pa_nil))
      (pss_cons (ps_for PassesOwn.never rfl (pi_range2 rfl T.m_range (pa_cons pe_int (pa_cons (pe_callB call_ln (by rfl) T.m_len PySem.boot_len (pa_cons (pv 0) pa_nil)) pa_nil))) (pg_name (i := 2) sc_trials.nd rfl (by first | exact Or.inl rfl | exact Or.inr rfl)) (pss_one (ps_for PassesOwn.never rfl (pi_range1 rfl T.m_range (pa_cons (pv 2) pa_nil)) (pg_name (i := 3) sc_trials.nd rfl (by first | exact Or.inl rfl | exact Or.inr rfl)) (pss_cons (ps_set (i := 4) sc_trials.nd rfl (by first | exact Or.inl rfl | exact Or.inr rfl) (pe_cal c_trial hr (by decide) (pa_cons (pv 0) (pa_cons (pv 2) (pa_cons (pv 3) pa_nil)))))
      (pss_one (ps_expr (pe_bm PySem.F.plainAttrs_list PySem.F.slot_list_append PySem.F.type_list_append mt_append (pv 1) (pa_cons (pe_tup (pa_cons (pe_cal c_worth hr (by decide) (pa_cons (pv 0) (pa_cons (pv 4) pa_nil))) (pa_cons (pv 4) pa_nil))) pa_nil))))))))
      (pss_one (ps_ret (pv 1))))), ?_⟩
    try dsimp only [cxOf]
    refine g_start [some (.ref a), none, none, none, none] rfl ?_
    walk_at "go"
    refine ⟨Nat.zero_le _, fun l nl => ?_⟩
    have R12 := R.len
    walk_at "go"
    refine f_R2 (lo := 1) (n := cs.length) (by omega) (fun i σ' H' => ∃ x y z ts ws, σ' = [some (.ref a), some (.ref l), x, y, z] ∧ Same H H' ∧ PairsAt H H' l (trialsTo cs i) ts ws) ⟨none, none, none, [], [], rfl, same_new nl, .nil upd_same⟩ ?_ ?_ ?_
    · rintro i σ' H' hi ⟨x, y, z, ts, ws, rfl, s1, P1⟩
      have eh : (1 : Int) + (i : Int) = ((i + 1 : Nat) : Int) := by omega
      rw [eh]
      refine f_R1 (n := ((i + 1 : Nat) : Int)) (by omega) (fun j σ' H' => ∃ y z ts ws, σ' = [some (.ref a), some (.ref l), some (.int ((i + 1 : Nat) : Int)), y, z] ∧ Same H H' ∧ PairsAt H H' l (trialsTo cs i ++ trow cs (i + 1) j) ts ws) ?_ ?_ ?_ ?_
      · refine ⟨y, z, ts, ws, rfl, s1, ?_⟩
        show PairsAt H H' l (trialsTo cs i ++ []) ts ws
        rw [List.append_nil]
        exact P1
      · rintro j σ2 H2 hj ⟨y, z, ts, ws, rfl, s2, P2⟩
        have hj' : j < i + 1 := by omega
        have hl : i + 1 < cs.length := by omega
        have mm := triW_mem R hj' hl
        walk_at "go"
        refine ⟨a, cs, i + 1, j, rfl, s2.seq hA, R, hj', hl, fun p H3 hp s3 e3 => ?_⟩
        have hA3 := s3.seq (s2.seq hA)
        walk_at "go"
        refine ⟨.inl ⟨rfl, _, sq_of (s3 _ _ P2.lst)⟩, ?_⟩
        walk_at "go"
        refine ⟨a, p, cs, triW cs (i + 1) j, rfl, hA3, sq_of e3, triW_length (by omega), by omega, fun c hc => ?_, fun v hv => ?_, ?_⟩
        · have := R.posM c hc
          have := R.top c hc
          omega
        · have := mm v hv
          omega
        walk_at "go"
        refine ⟨(by show 2 ≤ sizeLine; decide), fun t nt => ?_⟩
        have P3 : PairsAt H (upd (upd H3 t (.tup [.int (dot cs (triW cs (i + 1) j)), .ref p])) l (.lst (ts.map V.ref ++ [.ref t]))) l (trialsTo cs i ++ trow cs (i + 1) j ++ [tri cs (i + 1) j]) (ts ++ [t]) (ws ++ [p]) :=
          PairsAt.push (p := tri cs (i + 1) j) P2 s2 hp s3 e3 nt
        have nH : H l = none := nl
        have l3 := s3 _ _ P2.lst
        have ltl := P2.lt
        have ttl := trialsTo_len cs i (by omega)
        walk_at "go"
        refine g_app (xs := ts.map V.ref) ?_ (small_lt ?_) ?_
        · rw [upd_ne (ne_of_none l3 nt)]
          exact l3
        · rw [List.length_map, ltl, List.length_append]
          unfold trow
          rw [List.length_map, List.length_range]
          omega
        walk_at "go"
        refine ⟨_, _, ts ++ [t], ws ++ [p], rfl, same_mut ((s2.trans s3).trans (same_new nt)) nH, ?_⟩
        rw [trow_succ, ← List.append_assoc]
        exact P3
      · rintro σ2 H2 ⟨y, z, ts, ws, rfl, s2, P2⟩
        rw [Int.toNat_natCast] at P2
        exact ⟨_, _, _, ts, ws, rfl, s2, P2⟩
      · intro Q' q'
        walk_at "go"
        exact q'
    · rintro σ' H' ⟨x, y, z, ts, ws, rfl, s1, P1⟩
      walk_at "go"
      have e : ((cs.length : Int) - 1).toNat = cs.length - 1 := by omega
      rw [e] at P1
      exact q l H' ts ws nl s1 P1
    · intro Q' q'
      walk_at "go"
      refine g_lnI ((same_new nl).seq hA) ?_
      walk_at "go"
      exact q'
end
end Cj
namespace Cj
open PySem PySem.Spec PyProof.Rows L2
section
variable {P : Program} {w : World} {K : PySem.W.Frag} {mg : Str → Option Value} {base : Heap}
abbrev s_is_better : Stmt := top 20
theorem sc_is_better : FnScope ["coins", "pair"] ["coins", "pair"] (defScope s_is_better) := ⟨rfl, rfl, rfl, by decide +kernel, rfl, by decide +kernel, by decide +kernel⟩

def spBetter (K : PySem.W.Frag) : Sp := fun vs H Q _ => ∃ (a t q : Addr) (cs : List Int) (p : Int × List Int), vs = [.ref a, .ref t] ∧ SqL K H a (cs.map V.int) ∧ Row cs ∧ H t = some (.tup [.int p.1, .ref q]) ∧ H q = some (LI p.2) ∧ 0 ≤ p.1 ∧ p.1 ≤ 10 ^ 80 ∧
  ∀ H', Same H H' → Q (.bl (better cs p)) H'
theorem ok_better {f : Addr} {fd : FuncData} (F : Fun K "is_better" "is_better" s_is_better f fd) (T : Bn mg) (c_pieces : Cal P w K mg base 1 "pieces" ["way"] (spPieces K)) (c_first_way : Cal P w K mg base 2 "first_way" ["coins", "amount"] (spFirst K)) :
    FnOk P w K mg base CX0 3 f fd ["coins", "pair"] (spBetter K) := by
  refine F.ok sc_is_better (fun vs H Q E h => ?_) (fun cdv A outer s H vs Q E hr h => ?_)
  · obtain ⟨a, t, q, cs, p, rfl, _⟩ := h
    rfl
  · obtain ⟨a, t, q, cs, p, rfl, hA, R, ht, hq, h0, h1, k⟩ := h
    refine ⟨_, (pss_one (ps_ret (pe_cmpR op_lt (pe_cal c_pieces hr (by decide) (pa_cons (pe_ix ix_tup (pv 1) pe_int (fun _ _ => rfl)) pa_nil)) (pe_cal c_pieces hr (by decide) (pa_cons (pe_cal c_first_way hr (by decide) (pa_cons (pv 0) (pa_cons (pe_ix ix_tup (pv 1) pe_int (fun _ _ => rfl)) pa_nil))) pa_nil)) (nomark _)))), ?_⟩
    try dsimp only [cxOf]
    refine g_start [some (.ref a), some (.ref t)] rfl ?_
    walk_at "go"
    refine g_ixT (sqt_of ht) (atI_nat (j := 1) rfl) ?_
    walk_at "go"
    refine ⟨q, p.2, rfl, sq_of hq, ?_⟩
    walk_at "go"
    refine g_ixT (sqt_of ht) (atI_nat (j := 0) rfl) ?_
    walk_at "go"
    refine ⟨a, cs, p.1, rfl, hA, R, h0, h1, fun r H1 nr s1 e1 => ?_⟩
    walk_at "go"
    refine ⟨r, fw cs p.1, rfl, sq_of e1, ?_⟩
    walk_at "go"
    exact k H1 s1
end
end Cj
namespace Cj
open PySem PySem.Spec PyProof.Rows L2
section
variable {P : Program} {w : World} {K : PySem.W.Frag} {mg : Str → Option Value} {base : Heap}
abbrev s_rank : Stmt := top 21
theorem sc_rank : FnScope ["pair"] ["pair"] (defScope s_rank) := ⟨rfl, rfl, rfl, by decide +kernel, rfl, by decide +kernel, by decide +kernel⟩

def spRank : Sp := fun vs H Q _ => ∃ (t q : Addr) (p : Int × List Int), vs = [.ref t] ∧ H t = some (.tup [.int p.1, .ref q]) ∧ H q = some (LI p.2) ∧
  ∀ r, H r = none → Q (.ref r) (upd H r (.tup [.int p.1, .int p.2.sum]))
theorem ok_rank {f : Addr} {fd : FuncData} (F : Fun K "rank" "rank" s_rank f fd) (c_pieces : Cal P w K mg base 1 "pieces" ["way"] (spPieces K)) : FnOk P w K mg base CX0 2 f fd ["pair"] spRank := by
  refine F.ok sc_rank (fun vs H Q E h => ?_) (fun cdv A outer s H vs Q E hr h => ?_)
  · obtain ⟨t, q, p, rfl, _⟩ := h
    rfl
  · obtain ⟨t, q, p, rfl, ht, hq, k⟩ := h
    refine ⟨_, (pss_one (ps_ret (pe_tup (pa_cons (pe_ix ix_tup (pv 0) pe_int (fun _ _ => rfl)) (pa_cons (pe_cal c_pieces hr (by decide) (pa_cons (pe_ix ix_tup (pv 0) pe_int (fun _ _ => rfl)) pa_nil)) pa_nil))))), ?_⟩
    try dsimp only [cxOf]
    refine g_start [some (.ref t)] rfl ?_
    walk_at "go"
    refine g_ixT (sqt_of ht) (atI_nat (j := 0) rfl) ?_
    walk_at "go"
    refine g_ixT (sqt_of ht) (atI_nat (j := 1) rfl) ?_
    walk_at "go"
    refine ⟨q, p.2, rfl, sq_of hq, ?_⟩
    walk_at "go"
    exact ⟨(by show 2 ≤ sizeLine; decide), k⟩
end
end Cj
namespace Cj
open PySem PySem.Spec PyProof.Rows L2
section
variable {P : Program} {w : World} {K : PySem.W.Frag} {mg : Str → Option Value} {base : Heap}
abbrev s_judged : Stmt := top 22
theorem sc_judged : FnScope ["coins", "best", "pair"] ["coins"] (defScope s_judged) := ⟨rfl, rfl, rfl, by decide +kernel, rfl, by decide +kernel, by decide +kernel⟩

/-- the verdict as a value: None, or a new pair -/
def VerdAt (H0 H : Hp) (o : Option (Int × List Int)) (v : V) : Prop := match o with
  | none => v = .non
  | some p => ∃ t q, v = .ref t ∧ H t = some (.tup [.int p.1, .ref q]) ∧ H q = some (LI p.2) ∧ H0 t = none ∧ H0 q = none
theorem VerdAt.mono {H0 H H' : Hp} {o : Option (Int × List Int)} {v : V} (h : VerdAt H0 H o v) (s : Same H H') : VerdAt H0 H' o v := by
  cases o with
  | none => exact h
  | some p =>
    obtain ⟨t, q, a, b, c, d⟩ := h
    exact ⟨t, q, a, s _ _ b, s _ _ c, d⟩
def spJudged (K : PySem.W.Frag) : Sp := fun vs H Q _ => ∃ (a : Addr) (cs : List Int), vs = [.ref a] ∧ SqL K H a (cs.map V.int) ∧ Row cs ∧ ∀ v H', Same H H' → VerdAt H H' (judgedM cs) v → Q v H'
theorem lex_is (p b : Int × List Int) : HT.lexLt [p.1, p.2.sum] [b.1, b.2.sum] = lessR p b := rfl
theorem ok_judged {f : Addr} {fd : FuncData} (F : Fun K "judged" "judged" s_judged f fd) (c_trials : Cal P w K mg base 4 "trials" ["coins"] (spTrials K)) (c_is_better : Cal P w K mg base 3 "is_better" ["coins", "pair"] (spBetter K)) (c_rank : Cal P w K mg base 2 "rank" ["pair"] spRank) :
    FnOk P w K mg base CX0 5 f fd ["coins"] (spJudged K) := by
  refine F.ok sc_judged (fun vs H Q E h => ?_) (fun cdv A outer s H vs Q E hr h => ?_)
  · obtain ⟨a, cs, rfl, _⟩ := h
    rfl
  · obtain ⟨a, cs, rfl, hA, R, k⟩ := h
    refine ⟨_, (pss_cons (ps_set (i := 1) sc_judged.nd rfl (by first | exact Or.inl rfl | exact Or.inr rfl) pe_non)
      (pss_cons (ps_for PassesOwn.never rfl (pi_list (pe_cal c_trials hr (by decide) (pa_cons (pv 0) pa_nil))) (pg_name (i := 2) sc_judged.nd rfl (by first | exact Or.inl rfl | exact Or.inr rfl)) (pss_one (ps_if (PW.pt (pw_and (pt_val (pe_cal c_is_better hr (by decide) (pa_cons (pv 0) (pa_cons (pv 2) pa_nil)))) (pw_and1 (PW.pt (pw_or (pt_cmpR op_is1 (pv 1) pe_non (nomark _)) (pw_or1 (pt_cmpR (op_ltT hr.units0) (pe_cal c_rank hr (by decide) (pa_cons (pv 2) pa_nil)) (pe_cal c_rank hr (by decide) (pa_cons (pv 1) pa_nil)) (nomark _)))))))) (pss_one (ps_set (i := 1) sc_judged.nd rfl (by first | exact Or.inl rfl | exact Or.inr rfl) (pv 2))) pss_nil)))
      (pss_one (ps_ret (pv 1))))), ?_⟩
    try dsimp only [cxOf]
    refine g_start [some (.ref a), none, none] rfl ?_
    walk_at "go"
    refine g_forL ?_
    walk_at "go"
    refine ⟨a, cs, rfl, hA, R, fun l H1 ts ws nl s1 P1 => ?_⟩
    have tl : ts.length = (trialsL cs).length := P1.lt
    refine f_L1 (sq_of P1.lst) (fun i σ' H' => ∃ v x, σ' = [some (.ref a), some v, x] ∧ Same H1 H' ∧ VerdAt H H' (((trialsL cs).take i).foldl (jstep cs) none) v) ⟨_, none, rfl, Same.refl _, rfl⟩ (fun i σ' H' _ ⟨_, _, _, s2, _⟩ => sq_of (s2 _ _ P1.lst)) ?_ ?_
    · rintro i x σ' H2 hi ⟨v, y, rfl, s2, hv⟩
      have hi' : i < (trialsL cs).length := by
        have z := (List.getElem?_eq_some_iff.mp hi).1
        rw [List.length_map, tl] at z
        exact z
      have ep := List.getElem?_eq_getElem hi'
      obtain ⟨t, q, e1, e2, e3, e4⟩ := P1.at_ i _ ep
      rw [List.getElem?_map, e1] at hi
      have ex : V.ref t = x := Option.some.inj hi
      subst ex
      obtain ⟨h, lo, hl, hh, em⟩ := trials_mem (List.getElem_mem hi')
      have bb := tri_bounds R hl hh
      rw [← em] at bb
      have fresh : VerdAt H H2 (some (trialsL cs)[i]) (.ref t) := ⟨t, q, rfl, s2 _ _ e3, s2 _ _ e4, P1.newT t (List.mem_of_getElem? e1), P1.new q (List.mem_of_getElem? e2)⟩
      have estep : ((trialsL cs).take (i + 1)).foldl (jstep cs) none = jstep cs (((trialsL cs).take i).foldl (jstep cs) none) (trialsL cs)[i] := by
        rw [take_at ep, List.foldl_append]
        rfl
      rw [estep]
      walk_at "go"
      refine ⟨a, t, q, cs, (trialsL cs)[i], rfl, (s1.trans s2).seq hA, R, s2 _ _ e3, s2 _ _ e4, by omega, by omega, fun H3 s3 => ?_⟩
      have s13 := s2.trans s3
      walk_at "go"
      refine g_ite (fun hb => ?_) (fun hb => ?_)
      · generalize ((trialsL cs).take i).foldl (jstep cs) none = o at hv ⊢
        unfold jstep
        rw [if_pos hb]
        walk_at "go"
        cases o with
        | none =>
          have ev : v = .non := hv
          subst ev
          refine g_iteD (fun _ => ?_) (fun z => absurd rfl z)
          walk_at "go"
          exact ⟨_, _, rfl, s13, fresh.mono s3⟩
        | some b =>
          obtain ⟨t', q', rfl, f1, f2, f3⟩ := hv
          refine g_iteD (fun z => nomatch z) (fun _ => ?_)
          walk_at "go"
          refine ⟨t, q, _, rfl, s13 _ _ e3, s13 _ _ e4, fun r nr => ?_⟩
          walk_at "go"
          have s4 := same_new (o := .tup [.int (trialsL cs)[i].1, .int (trialsL cs)[i].2.sum]) nr
          refine ⟨t', q', b, rfl, s4 _ _ (s3 _ _ f1), s4 _ _ (s3 _ _ f2), fun r' nr' => ?_⟩
          have s5 := s4.trans (same_new (o := .tup [.int b.1, .int b.2.sum]) nr')
          refine ⟨r, r', [(trialsL cs)[i].1, (trialsL cs)[i].2.sum], [b.1, b.2.sum], rfl, rfl, sqt_of ?_, sqt_of upd_same, ?_⟩
          · rw [upd_ne (ne_of_none upd_same nr')]
            exact upd_same
          rw [lex_is]
          walk_at "go"
          refine g_ite (fun hl => ?_) (fun hl => ?_)
          · walk_at "go"
            refine ⟨_, _, rfl, s13.trans s5, ?_⟩
            show VerdAt H _ (if lessR (trialsL cs)[i] b = true then some (trialsL cs)[i] else some b) _
            rw [if_pos hl]
            exact (fresh.mono s3).mono s5
          · walk_at "go"
            refine ⟨_, _, rfl, s13.trans s5, ?_⟩
            show VerdAt H _ (if lessR (trialsL cs)[i] b = true then some (trialsL cs)[i] else some b) _
            rw [hl]
            exact ⟨t', q', rfl, s5 _ _ (s3 _ _ f1), s5 _ _ (s3 _ _ f2), f3⟩
      · walk_at "go"
        refine ⟨_, _, rfl, s13, ?_⟩
        unfold jstep
        rw [hb]
        exact hv.mono s3
    · rintro σ' H2 ⟨v, y, rfl, s2, hv⟩
      walk_at "go"
      rw [List.length_map, tl, List.take_length] at hv
      exact k v H2 (s1.trans s2) hv
end
end Cj

namespace Cj
open PySem PySem.Spec PyProof.Rows L2
/-- a judge at j: its row is kept at k -/
def JAt (C : Addr) (H : Hp) (j k : Addr) : Prop := ∃ dx, H j = some (.ins C dx [(("kept" : Str), V.ref k)])
/-- what the class says of itself -/
structure JCls (K : PySem.W.Frag) (C : Addr) : Prop where
  cl : Cls K C
  nk : NoAttr K C "kept"
theorem look_kept {v : V} : List.lookup ("kept" : Str) [(("kept" : Str), v)] = some v := by simp [List.lookup]
theorem put_kept {v x : V} : putF "kept" v [(("kept" : Str), x)] = [(("kept" : Str), v)] := if_pos rfl
theorem put_first {v : V} : putF "kept" v [] = [(("kept" : Str), v)] := rfl
/-- all but j stands -/
def But (j : Addr) (H H' : Hp) : Prop := ∀ b o, H b = some o → b ≠ j → H' b = some o
section
variable {K : PySem.W.Frag} {σ : L2.St} {H : Hp} {Q : VK} {te tv : TE} {D : Ends}
theorem g_fld {f : Str} (h : te σ H fun x H1 => ∃ a C dx fs v, x = .ref a ∧ H1 a = some (.ins C dx fs) ∧ Cls K C ∧ NoAttr K C f ∧ fs.lookup f = some v ∧ Q v H1) : tFld K te f σ H Q := h
theorem g_kept {C j k : Addr} {Qk : V → Prop} (c : JCls K C) (h : JAt C H j k) (q : Qk (.ref k)) : ∃ a C dx fs v, V.ref j = .ref a ∧ H a = some (.ins C dx fs) ∧ Cls K C ∧ NoAttr K C "kept" ∧ fs.lookup ("kept" : Str) = some v ∧ Qk v := by
  obtain ⟨dx, e⟩ := h
  exact ⟨j, C, dx, _, _, rfl, e, c.cl, c.nk, look_kept, q⟩
theorem g_sFld {f : Str} (h : tv σ H fun y H1 => te σ H1 fun x H2 => ∃ a C dx fs, x = .ref a ∧ H2 a = some (.ins C dx fs) ∧ Cls K C ∧ NoAttr K C f ∧ fs.length < 1000 ∧ D.nx σ (upd H2 a (.ins C dx (putF f y fs)))) : sFld K te tv f D σ H := h
end
section
variable {P : Program} {w : World} {K : PySem.W.Frag} {mg : Str → Option Value} {base : Heap} {R W A G T' C D' J : Addr} {b1 b2 b3 b4 b5 : Bool}
abbrev s_Judge___init__ : Stmt := inClass (top 24) 0
theorem sc_Judge___init__ : FnScope ["self"] ["self"] (defScope s_Judge___init__) := ⟨rfl, rfl, rfl, by decide +kernel, rfl, by decide +kernel, by decide +kernel⟩

def spInit (J : Addr) : Sp := fun vs H Q _ => ∃ (p dx : Addr), vs = [.ref p] ∧ H p = some (.ins J dx []) ∧ ∀ H' k, But p H H' → H k = none → JAt J H' p k → H' k = some (LI [1]) → Q .non H'
theorem ok_init {f : Addr} {fd : FuncData} (F : Fun K "__init__" "Judge.__init__" s_Judge___init__ f fd) (c : JCls K J) : FnOk P w K mg base CX0 1 f fd ["self"] (spInit J) := by
  refine F.ok sc_Judge___init__ (fun vs H Q E h => ?_) (fun cdv A0 outer s H vs Q E hr h => ?_)
  · obtain ⟨p, dx, rfl, _⟩ := h
    rfl
  · obtain ⟨p, dx, rfl, hp, q⟩ := h
    refine ⟨_, (pss_one (ps_fld (pv 0) (pe_lst (pa_cons pe_int pa_nil)) rfl)), ?_⟩
    try dsimp only [cxOf]
    refine g_start [some (.ref p)] rfl ?_
    refine g_sFld ?_
    walk_at "go"
    refine ⟨small_le (by show 1 ≤ 100000; decide), fun k hk => ?_⟩
    walk_at "go"
    have np : p ≠ k := ne_of_none hp hk
    refine ⟨p, J, dx, [], rfl, by rw [upd_ne np]; exact hp, c.cl, c.nk, by decide, ?_⟩
    rw [put_first]
    refine q _ k (fun b o e nb => ?_) hk ⟨dx, upd_same⟩ ?_
    · rw [upd_ne nb, upd_ne (ne_of_none e hk)]
      exact e
    · rw [upd_ne (Ne.symm np)]
      exact upd_same
abbrev s_Judge_row : Stmt := inClass (top 24) 1
theorem sc_Judge_row : FnScope ["self"] ["self"] (defScope s_Judge_row) := ⟨rfl, rfl, rfl, by decide +kernel, rfl, by decide +kernel, by decide +kernel⟩

def spJRow (K : PySem.W.Frag) (J : Addr) : Sp := fun vs H Q _ => ∃ (j k : Addr) (cs : List Int), vs = [.ref j] ∧ JAt J H j k ∧ SqL K H k (cs.map V.int) ∧ RetL cs H Q
theorem ok_jrow {f : Addr} {fd : FuncData} (F : Fun K "row" "Judge.row" s_Judge_row f fd) (T : Bn mg) (c : JCls K J) : FnOk P w K mg base CX0 1 f fd ["self"] (spJRow K J) := by
  refine F.ok sc_Judge_row (fun vs H Q E h => ?_) (fun cdv A0 outer s H vs Q E hr h => ?_)
  · obtain ⟨j, k, cs, rfl, _⟩ := h
    rfl
  · obtain ⟨j, k, cs, rfl, hj, hk, q⟩ := h
    refine ⟨_, (pss_one (ps_ret (pe_callTy call_ls (by rfl) T.m_list (by decide +kernel) (pa_cons (pe_fld (pv 0) rfl) pa_nil)))), ?_⟩
    try dsimp only [cxOf]
    refine g_start [some (.ref j)] rfl ?_
    walk_at "go"
    refine g_fld ?_
    walk_at "go"
    refine g_kept c hj ?_
    walk_at "go"
    exact g_lsN hk fun p H' hp s1 e => q p H' hp s1 e
abbrev s_Judge_more : Stmt := inClass (top 24) 2
theorem sc_Judge_more : FnScope ["self", "coin"] ["self", "coin"] (defScope s_Judge_more) := ⟨rfl, rfl, rfl, by decide +kernel, rfl, by decide +kernel, by decide +kernel⟩

def spMore (J D : Addr) : Sp := fun vs H Q E => ∃ (j k : Addr) (cs : List Int) (x : Int), vs = [.ref j, .int x] ∧ JAt J H j k ∧ H k = some (LI cs) ∧ cs.length ≤ 12 ∧
  (Row (cs ++ [x]) → ∀ H' k', But j H H' → JAt J H' j k' → H k' = none → H' k' = some (LI (cs ++ [x])) → Q .non H') ∧ (¬ Row (cs ++ [x]) → ∀ H', Same H H' → E (.ref D) none H')
theorem ok_more {f : Addr} {fd : FuncData} (F : Fun K "more" "Judge.more" s_Judge_more f fd) (T : Bn mg) (c : JCls K J) (r_good_row : CalR P w K mg base 1 "good_row" ["coins"] (spGood K D')) : FnOk P w K mg base (L2.CX P w) 2 f fd ["self", "coin"] (spMore J D') := by
  refine F.okX sc_Judge_more (fun vs H Q E h => ?_) (fun cdv A0 outer s H vs Q E hr h => ?_)
  · obtain ⟨j, k, cs, x, rfl, _⟩ := h
    rfl
  · obtain ⟨j, k, cs, x, rfl, hj, hk, hl, good, bad⟩ := h
    refine ⟨_, (pss_one (ps_fld (pv 0) (pe_calR r_good_row (takes_of rfl rfl rfl rfl) hr (by decide) (pa_cons (pe_op op_cat (pe_fld (pv 0) rfl) (pe_lst (pa_cons (pv 1) pa_nil))) pa_nil)) rfl)), ?_⟩
    try dsimp only [cxOf]
    refine g_start [some (.ref j), some (.int x)] rfl ?_
    refine g_sFld ?_
    refine g_callS ?_
    walk_at "go"
    refine g_fld ?_
    walk_at "go"
    refine g_kept c hj ?_
    walk_at "go"
    refine ⟨small_le (by show 1 ≤ 100000; decide), fun p hp => ?_⟩
    have s1 := same_new (o := .lst [.int x]) hp
    refine g_cat (s1 _ _ hk) upd_same (small_le (by rw [LI_len]; show cs.length + 1 ≤ _; omega)) fun p2 hp2 => ?_
    rw [LI_app]
    have s2 := s1.trans (same_new (o := LI (cs ++ [x])) hp2)
    have e2 : (upd (upd H p (.lst [.int x])) p2 (LI (cs ++ [x]))) p2 = some (LI (cs ++ [x])) := upd_same
    generalize upd (upd H p (.lst [.int x])) p2 (LI (cs ++ [x])) = H2 at s2 e2 ⊢
    walk_at "go"
    refine ⟨p2, cs ++ [x], rfl, sq_of e2, by rw [List.length_append]; show cs.length + 1 ≤ _; omega, fun g p3 H3 hp3 s3 e3 => ?_, fun g => bad g H2 s2⟩
    obtain ⟨dx, ej⟩ := hj
    have s23 := s2.trans s3
    have ej3 := s23 _ _ ej
    have nj : j ≠ p3 := ne_of_none (s2 _ _ ej) hp3
    walk_at "go"
    refine ⟨j, J, dx, _, rfl, ej3, c.cl, c.nk, (by show 1 < 1000; decide), ?_⟩
    rw [put_kept]
    refine good g _ p3 (fun b o e nb => ?_) ⟨dx, upd_same⟩ (s2.free hp3) ?_
    · rw [upd_ne nb]
      exact s23 _ _ e
    · rw [upd_ne (Ne.symm nj)]
      exact e3
abbrev s_Judge_fewer : Stmt := inClass (top 24) 3
theorem sc_Judge_fewer : FnScope ["self", "last"] ["self"] (defScope s_Judge_fewer) := ⟨rfl, rfl, rfl, by decide +kernel, rfl, by decide +kernel, by decide +kernel⟩

def spFewer (J D : Addr) : Sp := fun vs H Q E => ∃ (j k : Addr) (cs : List Int) (x : Int), vs = [.ref j] ∧ JAt J H j k ∧ H k = some (LI cs) ∧ cs.length ≤ 12 ∧ cs[cs.length - 1]? = some x ∧
  (cs.length ≠ 1 → ∀ H' k', But j H H' → JAt J H' j k' → H k' = none → H' k' = some (LI (cs.take (cs.length - 1))) → Q (.int x) H') ∧ (cs.length = 1 → E (.ref D) none H)
theorem ok_fewer {f : Addr} {fd : FuncData} (F : Fun K "fewer" "Judge.fewer" s_Judge_fewer f fd) (T : Bn mg) (c : JCls K J) (D : ExD K mg R W A G T' C D' "NoRow" b1 b2 b3 b4 b5) : FnOk P w K mg base (L2.CX P w) 1 f fd ["self"] (spFewer J D') := by
  refine F.okX sc_Judge_fewer (fun vs H Q E h => ?_) (fun cdv A0 outer s H vs Q E hr h => ?_)
  · obtain ⟨j, k, cs, x, rfl, _⟩ := h
    rfl
  · obtain ⟨j, k, cs, x, rfl, hj, hk, hl, hx, good, bad⟩ := h
    refine ⟨_, (pss_cons (ps_if (pt_cmpR op_eq (pe_callB call_ln (by rfl) T.m_len PySem.boot_len (pa_cons (pe_fld (pv 0) rfl) pa_nil)) pe_int (nomark _)) (pss_one (ps_raise rfl (takes_of rfl rfl rfl rfl) (pmk_own PySem.F.excBase_ValueError D.ex D.nD D.ki (raises_own D.ri D.rt) rfl))) pss_nil)
      (pss_cons (ps_set (i := 1) sc_Judge_fewer.nd rfl (by first | exact Or.inl rfl | exact Or.inr rfl) (pe_ix ix_list (pe_fld (pv 0) rfl) (pe_un un_neg pe_int) (fun _ _ => rfl)))
      (pss_cons (ps_fld (pv 0) (pe_slice sl_list (pe_fld (pv 0) rfl) po_none (po_some (pe_un un_neg pe_int))) rfl)
      (pss_one (ps_ret (pv 1)))))), ?_⟩
    try dsimp only [cxOf]
    refine g_start [some (.ref j), none] rfl ?_
    walk_at "go"
    refine g_fld ?_
    walk_at "go"
    refine g_kept c hj ?_
    walk_at "go"
    refine g_lnI (sq_of hk) ?_
    walk_at "go"
    refine g_iteD (fun one => ?_) (fun many => ?_)
    · exact bad (by omega)
    walk_at "go"
    refine g_fld ?_
    walk_at "go"
    refine g_kept c hj ?_
    walk_at "go"
    refine g_ix (sq_of hk) (at_neg1 hx) ?_
    walk_at "go"
    refine g_sFld ?_
    walk_at "go"
    refine g_fld ?_
    walk_at "go"
    refine g_kept c hj ?_
    walk_at "go"
    refine g_slL (sq_of hk) fun p hp => ?_
    rw [cut_last, ← List.map_take, List.length_map]
    obtain ⟨dx, ej⟩ := hj
    have nj : j ≠ p := ne_of_none ej hp
    walk_at "go"
    refine ⟨j, J, dx, _, rfl, by rw [upd_ne nj]; exact ej, c.cl, c.nk, (by show 1 < 1000; decide), ?_⟩
    rw [put_kept]
    walk_at "go"
    refine good (by omega) _ p (fun b o e nb => ?_) ⟨dx, upd_same⟩ hp ?_
    · rw [upd_ne nb, upd_ne (ne_of_none e hp)]
      exact e
    · rw [upd_ne (Ne.symm nj)]
      exact upd_same
abbrev s_Judge_verdict : Stmt := inClass (top 24) 4
theorem sc_Judge_verdict : FnScope ["self"] ["self"] (defScope s_Judge_verdict) := ⟨rfl, rfl, rfl, by decide +kernel, rfl, by decide +kernel, by decide +kernel⟩

def spVerdict (K : PySem.W.Frag) (J : Addr) : Sp := fun vs H Q _ => ∃ (j k : Addr) (cs : List Int), vs = [.ref j] ∧ JAt J H j k ∧ SqL K H k (cs.map V.int) ∧ Row cs ∧ ∀ v H', Same H H' → VerdAt H H' (judgedM cs) v → Q v H'
theorem ok_verdict {f : Addr} {fd : FuncData} (F : Fun K "verdict" "Judge.verdict" s_Judge_verdict f fd) (T : Bn mg) (c : JCls K J) (c_judged : Cal P w K mg base 5 "judged" ["coins"] (spJudged K)) : FnOk P w K mg base CX0 6 f fd ["self"] (spVerdict K J) := by
  refine F.ok sc_Judge_verdict (fun vs H Q E h => ?_) (fun cdv A0 outer s H vs Q E hr h => ?_)
  · obtain ⟨j, k, cs, rfl, _⟩ := h
    rfl
  · obtain ⟨j, k, cs, rfl, hj, hk, R, q⟩ := h
    refine ⟨_, (pss_one (ps_ret (pe_cal c_judged hr (by decide) (pa_cons (pe_fld (pv 0) rfl) pa_nil)))), ?_⟩
    try dsimp only [cxOf]
    refine g_start [some (.ref j)] rfl ?_
    walk_at "go"
    refine g_fld ?_
    walk_at "go"
    refine g_kept c hj ?_
    walk_at "go"
    exact ⟨k, cs, rfl, hk, R, q⟩
end
end Cj
namespace Cj
open PySem PySem.Spec PyProof.Rows L2
/-- a method that may be called -/
structure CalM (P : Program) (w : World) (K : PySem.W.Frag) (mg : Str → Option Value) (base : Heap) (CX : CXT) (k : Nat) (J : Addr) (m : Str) (ps : List Str) (sp : Sp) : Prop where
  ex : ∃ f fd, Meth K J m f ∧ FnOk P w K mg base CX k f fd ps sp ∧ Binds K fd ps []
def tMS (J : Addr) (m : Str) (sp : Sp) (Ef : L2.St → XK) (ta : TE) (t : TA) : TE := fun σ H Q => ta σ H fun x H1 => ∃ j dx fs, x = .ref j ∧ H1 j = some (.ins J dx fs) ∧ fs.lookup m = none ∧ t σ H1 fun vs H2 => sp (x :: vs) H2 Q (Ef σ)
section
variable {X : Cx} {k n : Nat} {J : Addr} {m : Str} {ps : List Str} {sp : Sp} {o e : Expr} {ta te : TE} {pos apos : Pos}
theorem pe_m0 {pl : Sem Bool} (c : CalM X.prog X.w X.K X.mg X.base CX0 k J m ps sp) (j : JCls X.K J) (hr : Room n X.A) (hk : k ≤ n) (he : PE X o ta)
    (ht : eval (.Call (.Attribute o m apos) [] [] pos) X.env = (do
      let v ← eval o X.env
      standAt apos.atName
      let (f, fst) ← holding [v] (getMethod v m pl)
      callWith pos f fst (backTo pos (starEach [] X.env)) (backToKw pos (keywordEach [] X.env))) := by rfl) : PE X (.Call (.Attribute o m apos) [] [] pos) (tMeth J m sp [] E0 ta tNil) := by
  obtain ⟨f, fd, hm, F, hb⟩ := c.ex
  exact pe_meth0 (pl := pl) he j.cl hm F (hr.mono hk) hb .nil pass0 ht
theorem pe_m0L {pl : Sem Bool} (c : CalM X.prog X.w X.K X.mg X.base (L2.CX X.prog X.w) k J m ps sp) (j : JCls X.K J) (hr : Room n X.A) (hk : k ≤ n) (he : PE X o ta)
    (ht : eval (.Call (.Attribute o m apos) [] [] pos) X.env = (do
      let v ← eval o X.env
      standAt apos.atName
      let (f, fst) ← holding [v] (getMethod v m pl)
      callWith pos f fst (backTo pos (starEach [] X.env)) (backToKw pos (keywordEach [] X.env))) := by rfl) : PE X (.Call (.Attribute o m apos) [] [] pos) (tMeth J m sp [] E0 ta tNil) := by
  obtain ⟨f, fd, hm, F, hb⟩ := c.ex
  exact pe_meth0 (pl := pl) he j.cl hm F (hr.mono hk) hb .nil passL ht
theorem pe_mS {pl : Sem Bool} {W : WX} (c : CalM X.prog X.w X.K X.mg X.base (L2.CX X.prog X.w) k J m ps sp) (j : JCls X.K J) (tk : L2.Takes X W) (hr : Room n X.A) (hk : k ≤ n) (he : PE X o ta) (hx : PE X e te)
    (hs : starEach (e :: []) X.env = (false, eval e X.env) :: starEach [] X.env := by rfl) (hpl : (backTo pos (starEach [] X.env)).any (·.1) = false := by rfl)
    (ht : eval (.Call (.Attribute o m apos) (e :: []) [] pos) X.env = (do
      let v ← eval o X.env
      standAt apos.atName
      let (f, fst) ← holding [v] (getMethod v m pl)
      callWith pos f fst (backTo pos (starEach (e :: []) X.env)) (backToKw pos (keywordEach [] X.env))) := by rfl) : PE X (.Call (.Attribute o m apos) [e] [] pos) (tMS J m sp (WE W) ta (tCons te tNil)) := by
  obtain ⟨f, fd, hm, F, hb⟩ := c.ex
  have one : PA X [e] (tCons te tNil) := pa_cons hx pa_nil hs
  refine ⟨fun pins s σ H Q I h => PySem.W.methodCall_KW (pl := pl) (thn (he.run pins s σ H _ I h) fun u s1 hh => ?_) ht⟩
  obtain ⟨y, H1, I1, ry, b, dx, fs, rfl, eb, hl, q⟩ := hh
  cases (show u = Value.ref b from ry)
  refine getmeth_ok I1 eb j.cl hm hl (PySem.W.callWith_K (first := [.ref b]) (h₀ := X.base) I.ok.mod.kin hm.kp (thn (one.run pos pins s1 σ H1 _ I1 q) fun us s2 hh => ?_) hs hpl)
  obtain ⟨vs, H2, I2, r, q2⟩ := hh
  exact ⟨I2.kIn, run_fnS (us := .ref b :: us) (vs := .ref b :: vs) F (hr.mono hk) hb (passAt tk σ) I2 (.cons rfl r) q2⟩
end
end Cj

namespace Cj
open PySem PySem.Spec PyProof.Rows L2
section
variable {P : Program} {w : World} {K : PySem.W.Frag} {mg : Str → Option Value} {base : Heap}
abbrev s__law_cell_at : Stmt := top 27
theorem sc__law_cell_at : FnScope ["_law_script", "_law_k"] ["_law_script", "_law_k"] (defScope s__law_cell_at) := ⟨rfl, rfl, rfl, by decide +kernel, rfl, by decide +kernel, by decide +kernel⟩

def cellAt (ns : List Int) (k : Int) : Int := ns.getD k.toNat 0
def spCell (K : PySem.W.Frag) : Sp := fun vs H Q _ => ∃ (a : Addr) (ns : List Int) (k : Int), vs = [.ref a, .int k] ∧ SqL K H a (ns.map V.int) ∧ 0 ≤ k ∧ Q (.int (cellAt ns k)) H
theorem ok_cell {f : Addr} {fd : FuncData} (F : Fun K "_law_cell_at" "_law_cell_at" s__law_cell_at f fd) (T : Bn mg) : FnOk P w K mg base CX0 1 f fd ["_law_script", "_law_k"] (spCell K) := by
  refine F.ok sc__law_cell_at (fun vs H Q E h => ?_) (fun cdv A outer s H vs Q E hr h => ?_)
  · obtain ⟨a, ns, k, rfl, _⟩ := h
    rfl
  · obtain ⟨a, ns, k, rfl, hA, h0, q⟩ := h
    refine ⟨_, (pss_cons (ps_if (pt_cmpR op_lt (pv 1) (pe_callB call_ln (by rfl) T.m_len PySem.boot_len (pa_cons (pv 0) pa_nil)) (nomark _)) (pss_one (ps_ret (pe_ix ix_list (pv 0) (pv 1) (fun _ _ => rfl)))) pss_nil)
      (pss_one (ps_ret pe_int))), ?_⟩
    try dsimp only [cxOf]
    refine g_start [some (.ref a), some (.int k)] rfl ?_
    walk_at "go"
    refine g_iteD (fun hk => ?_) (fun hk => ?_)
    · walk_at "go"
      refine g_ix hA (at_intZ h0 hk) ?_
      walk_at "go"
      exact q
    · walk_at "go"
      have e : cellAt ns k = 0 := by
        unfold cellAt
        rw [List.getD_eq_getElem?_getD, List.getElem?_eq_none (by omega)]
        rfl
      rw [← e]
      exact q
end
end Cj

namespace Cj
open PySem PySem.Spec PyProof.Rows L2
section
variable {P : Program} {w : World} {K : PySem.W.Frag} {mg : Str → Option Value} {base : Heap}
abbrev s__law_whole : Stmt := top 26
theorem sc__law_whole : FnScope ["_law_found"] ["_law_found"] (defScope s__law_whole) := ⟨rfl, rfl, rfl, by decide +kernel, rfl, by decide +kernel, by decide +kernel⟩

def spWhole : Sp := fun vs H Q _ => ∃ i : Int, vs = [.int i] ∧ Q (.bl true) H
theorem ok_whole {f : Addr} {fd : FuncData} (F : Fun K "_law_whole" "_law_whole" s__law_whole f fd) (T : Bn mg) : FnOk P w K mg base CX0 1 f fd ["_law_found"] spWhole := by
  refine F.ok sc__law_whole (fun vs H Q E h => ?_) (fun cdv A outer s H vs Q E hr h => ?_)
  · obtain ⟨i, rfl, _⟩ := h
    rfl
  · obtain ⟨i, rfl, q⟩ := h
    refine ⟨_, (pss_one (ps_ret (pe_and (pe_callB call_isi (by rfl) T.m_isinstance (by decide +kernel) (pa_cons (pv 0) (pa_cons (pe_bltn (v := .ty "int") rfl T.m_int (by decide +kernel) rfl) pa_nil))) (pe_one (pe_not (pe_callB call_isi (by rfl) T.m_isinstance (by decide +kernel) (pa_cons (pv 0) (pa_cons (pe_bltn (v := .ty "bool") rfl T.m_bool (by decide +kernel) rfl) pa_nil)))))))), ?_⟩
    try dsimp only [cxOf]
    refine g_start [some (.int i)] rfl ?_
    walk_at "go"
    exact q
end
end Cj

namespace Cj
theorem Row.cut {cs : List Int} (R : Row cs) (h : cs.length ≠ 1) : Row (cs.take (cs.length - 1)) where
  len := by rw [List.length_take]; have := R.len; omega
  hd := by
    have := R.ne
    rw [List.getElem?_take_of_lt (by omega)]
    exact R.hd
  up := fun i x y hx hy => by
    have l := (List.getElem?_eq_some_iff.mp hy).1
    rw [List.length_take] at l
    rw [List.getElem?_take_of_lt (by omega)] at hx
    rw [List.getElem?_take_of_lt (by omega)] at hy
    exact R.up i x y hx hy
  top := fun x hx => R.top x (List.mem_of_mem_take hx)
theorem Row.last {cs : List Int} {x y : Int} (R : Row (cs ++ [x])) (h : cs[cs.length - 1]? = some y) : cs.length < 12 ∧ y < x ∧ x ≤ 10 ^ 60 := by
  have l := (List.getElem?_eq_some_iff.mp h).1
  refine ⟨?_, R.up (cs.length - 1) y x ?_ ?_, R.top x (List.mem_append_right _ (List.mem_singleton.mpr rfl))⟩
  · have z := R.len
    rw [List.length_append] at z
    have z1 : ([x] : List Int).length = 1 := rfl
    omega
  · rw [List.getElem?_append_left (by omega)]
    exact h
  · rw [List.getElem?_append_right (by omega), show cs.length - 1 + 1 - cs.length = 0 by omega]
    rfl
end Cj
namespace Cj
open PySem PySem.Spec PyProof.Rows L2
section
variable {X : Cx} {k n : Nat} {J : Addr} {m : Str} {ps : List Str} {sp : Sp} {o : Expr} {ta : TE} {pos apos : Pos}
theorem pe_mS0 {pl : Sem Bool} {W : WX} (c : CalM X.prog X.w X.K X.mg X.base (L2.CX X.prog X.w) k J m ps sp) (j : JCls X.K J) (tk : L2.Takes X W) (hr : Room n X.A) (hk : k ≤ n) (he : PE X o ta)
    (ht : eval (.Call (.Attribute o m apos) [] [] pos) X.env = (do
      let v ← eval o X.env
      standAt apos.atName
      let (f, fst) ← holding [v] (getMethod v m pl)
      callWith pos f fst (backTo pos (starEach [] X.env)) (backToKw pos (keywordEach [] X.env))) := by rfl) : PE X (.Call (.Attribute o m apos) [] [] pos) (tMS J m sp (WE W) ta tNil) := by
  obtain ⟨f, fd, hm, F, hb⟩ := c.ex
  refine ⟨fun pins s σ H Q I h => PySem.W.methodCall_KW (pl := pl) (thn (he.run pins s σ H _ I h) fun u s1 hh => ?_) ht⟩
  obtain ⟨y, H1, I1, ry, b, dx, fs, rfl, eb, hl, q⟩ := hh
  cases (show u = Value.ref b from ry)
  refine getmeth_ok I1 eb j.cl hm hl (PySem.W.callWith_K0 (first := [.ref b]) I1.kIn hm.kp ?_)
  exact run_fnS (us := [.ref b]) (vs := [.ref b]) F (hr.mono hk) hb (passAt tk σ) I1 (.cons rfl .nil) q
end
section
variable {K : PySem.W.Frag} {σ : L2.St} {H : Hp} {Q : VK} {ta : TE} {t : TA}
theorem g_mS {J : Addr} {m : Str} {sp : Sp} {Ef : L2.St → XK} (h : ta σ H fun x H1 => ∃ j dx fs, x = .ref j ∧ H1 j = some (.ins J dx fs) ∧ fs.lookup m = none ∧ t σ H1 fun vs H2 => sp (x :: vs) H2 Q (Ef σ)) : tMS J m sp Ef ta t σ H Q := h
theorem g_meth {C : Addr} {m : Str} {sp : Sp} {dvs : List V} {E : XK} (h : ta σ H fun x H1 => ∃ a dx fs, x = .ref a ∧ H1 a = some (.ins C dx fs) ∧ fs.lookup m = none ∧ t σ H1 fun vs H2 => sp (x :: (vs ++ dvs)) H2 Q E) : tMeth C m sp dvs E ta t σ H Q := h
theorem g_jm {J j k : Addr} {m : Str} {R : Prop} (h : JAt J H j k) (hm : (m == ("kept" : Str)) = false) (q : R) : ∃ a dx fs, V.ref j = .ref a ∧ H a = some (.ins J dx fs) ∧ fs.lookup m = none ∧ R := by
  obtain ⟨dx, e⟩ := h
  exact ⟨j, dx, _, rfl, e, by simp only [List.lookup, hm], q⟩
end
section
variable {P : Program} {w : World} {K : PySem.W.Frag} {mg : Str → Option Value} {base : Heap} {R W A G T' C D' J : Addr} {b1 b2 b3 b4 b5 : Bool}
abbrev s__law_put : Stmt := top 29
theorem sc__law_put : FnScope ["_law_judge", "_law_coin"] ["_law_judge", "_law_coin"] (defScope s__law_put) := ⟨rfl, rfl, rfl, by decide +kernel, rfl, by decide +kernel, by decide +kernel⟩

def spPut (J : Addr) : Sp := fun vs H Q _ => ∃ (j k : Addr) (cs : List Int) (x : Int), vs = [.ref j, .int x] ∧ JAt J H j k ∧ H k = some (LI cs) ∧ cs.length ≤ 12 ∧ Row (cs ++ [x]) ∧ ∀ H' k', But j H H' → JAt J H' j k' → H k' = none → H' k' = some (LI (cs ++ [x])) → Q (.bl true) H'
theorem ok_put {f : Addr} {fd : FuncData} (F : Fun K "_law_put" "_law_put" s__law_put f fd) (T : Bn mg) (c : JCls K J) (D : ExD K mg R W A G T' C D' "NoRow" b1 b2 b3 b4 b5) (m_more : CalM P w K mg base (L2.CX P w) 2 J "more" ["self", "coin"] (spMore J D')) :
    FnOk P w K mg base CX0 3 f fd ["_law_judge", "_law_coin"] (spPut J) := by
  have n_NoRow := D.nD
  refine F.ok sc__law_put (fun vs H Q E h => ?_) (fun cdv A0 outer s H vs Q E hr h => ?_)
  · obtain ⟨j, k, cs, x, rfl, _⟩ := h
    rfl
  · obtain ⟨j, k, cs, x, rfl, hj, hk, hl, good, q⟩ := h
    refine ⟨_, (pss_one (ps_try_only rfl rfl ⟨rfl, by decide, Or.inl n_NoRow⟩ takes0 (fun W pn xe tk _ => (pss_one (ps_ret (pe_cmpR op_is1 (pe_mS m_more c tk hr (by decide) (pv 0) (pv 1)) pe_non (nomark _))))) (fun a oe cls d pn hz hf => by exact (pss_one (ps_ret pe_bl))))), ?_⟩
    try dsimp only [cxOf]
    refine g_start [some (.ref j), some (.int x)] rfl ?_
    walk_at "go"
    refine g_mS ?_
    walk_at "go"
    refine g_jm hj (by decide +kernel) ?_
    walk_at "go"
    refine ⟨j, k, cs, x, rfl, hj, hk, hl, fun _ H' k' b1 b2 b3 b4 => ?_, fun bad => absurd good bad⟩
    walk_at "go"
    exact q H' k' b1 b2 b3 b4
abbrev s__law_put_refused : Stmt := top 31
theorem sc__law_put_refused : FnScope ["_law_judge", "_law_coin", "_law_e"] ["_law_judge", "_law_coin"] (defScope s__law_put_refused) := ⟨rfl, rfl, rfl, by decide +kernel, rfl, by decide +kernel, by decide +kernel⟩

def spPutR (J : Addr) : Sp := fun vs H Q _ => ∃ (j k : Addr) (cs : List Int) (x : Int), vs = [.ref j, .int x] ∧ JAt J H j k ∧ H k = some (LI cs) ∧ cs.length ≤ 12 ∧ ¬ Row (cs ++ [x]) ∧ ∀ H', Same H H' → Q (.bl true) H'
theorem ok_putR {f : Addr} {fd : FuncData} (F : Fun K "_law_put_refused" "_law_put_refused" s__law_put_refused f fd) (T : Bn mg) (c : JCls K J) (D : ExD K mg R W A G T' C D' "NoRow" b1 b2 b3 b4 b5) (m_more : CalM P w K mg base (L2.CX P w) 2 J "more" ["self", "coin"] (spMore J D'))
    (c__law_kinds : CalP P w K mg base 1 "_law_kinds" ["_law_e"] (spKinds D')) : FnOk P w K mg base CX0 3 f fd ["_law_judge", "_law_coin"] (spPutR J) := by
  have n_CoinError := D.nC
  have gk_NoRow := D.nD
  refine F.ok sc__law_put_refused (fun vs H Q E h => ?_) (fun cdv A0 outer s H vs Q E hr h => ?_)
  · obtain ⟨j, k, cs, x, rfl, _⟩ := h
    rfl
  · obtain ⟨j, k, cs, x, rfl, hj, hk, hl, bad, q⟩ := h
    refine ⟨_, (pss_cons (ps_try_as (i := 2) rfl rfl sc__law_put_refused.nd rfl rfl ⟨rfl, by decide, Or.inl n_CoinError⟩ takes0 (fun W pn xe tk _ => (pss_one (ps_expr (pe_mS m_more c tk hr (by decide) (pv 0) (pv 1))))) (fun a oe cls d pn hz hf => by exact (pss_one (ps_ret (pe_and (pe_callB (call_isX (K := K) (a := a) (o := (a, oe)) rfl rfl List.mem_cons_self hz hf) (by rfl) T.m_isinstance (by decide +kernel) (pa_cons (pv 2) (pa_cons (pe_glob (v := .ref _) rfl gk_NoRow rfl) pa_nil))) (pe_and (pe_callB (call_isX (K := K) (a := a) (o := (a, oe)) rfl rfl List.mem_cons_self hz hf) (by rfl) T.m_isinstance (by decide +kernel) (pa_cons (pv 2) (pa_cons (pe_bltn (v := .ty "ValueError") rfl T.m_ValueError (by decide +kernel) rfl) pa_nil))) (pe_one (pe_cmpR op_eq (pe_calP c__law_kinds (a := a) (o := (a, oe)) rfl List.mem_cons_self hz hf (room_up hr) (by decide) (pv 2)) pe_int (nomark _)))))))))
      (pss_one (ps_ret pe_bl))), ?_⟩
    try dsimp only [cxOf]
    refine g_start [some (.ref j), some (.int x), none] rfl ?_
    walk_at "go"
    refine g_mS ?_
    walk_at "go"
    refine g_jm hj (by decide +kernel) ?_
    walk_at "go"
    refine ⟨j, k, cs, x, rfl, hj, hk, hl, fun good => absurd good bad, fun _ H' s1 => ⟨true, D.mC, fun _ y hy => ?_, fun z => nomatch z⟩⟩
    walk_at "go"
    refine g_isX D.ec kit_self ?_
    walk_at "go"
    refine g_isXT D.ec D.qV ?_
    walk_at "go"
    refine g_calP ?_
    walk_at "go"
    refine ⟨rfl, rfl, rfl, fun H2 s2 => ?_⟩
    walk_at "go"
    exact q _ (s1.trans s2)
abbrev s__law_off_refused : Stmt := top 32
theorem sc__law_off_refused : FnScope ["_law_judge"] ["_law_judge"] (defScope s__law_off_refused) := ⟨rfl, rfl, rfl, by decide +kernel, rfl, by decide +kernel, by decide +kernel⟩

def spOff (J : Addr) : Sp := fun vs H Q _ => ∃ (j k : Addr) (x : Int), vs = [.ref j] ∧ JAt J H j k ∧ H k = some (LI [x]) ∧ Q (.bl true) H
theorem ok_off {f : Addr} {fd : FuncData} (F : Fun K "_law_off_refused" "_law_off_refused" s__law_off_refused f fd) (T : Bn mg) (c : JCls K J) (D : ExD K mg R W A G T' C D' "NoRow" b1 b2 b3 b4 b5) (m_fewer : CalM P w K mg base (L2.CX P w) 1 J "fewer" ["self"] (spFewer J D')) :
    FnOk P w K mg base CX0 2 f fd ["_law_judge"] (spOff J) := by
  have n_NoRow := D.nD
  refine F.ok sc__law_off_refused (fun vs H Q E h => ?_) (fun cdv A0 outer s H vs Q E hr h => ?_)
  · obtain ⟨j, k, x, rfl, _⟩ := h
    rfl
  · obtain ⟨j, k, x, rfl, hj, hk, q⟩ := h
    refine ⟨_, (pss_cons (ps_try_only rfl rfl ⟨rfl, by decide, Or.inl n_NoRow⟩ takes0 (fun W pn xe tk _ => (pss_one (ps_expr (pe_mS0 m_fewer c tk hr (by decide) (pv 0))))) (fun a oe cls d pn hz hf => by exact (pss_one (ps_ret pe_bl))))
      (pss_one (ps_ret pe_bl))), ?_⟩
    try dsimp only [cxOf]
    refine g_start [some (.ref j)] rfl ?_
    walk_at "go"
    refine g_mS ?_
    walk_at "go"
    refine g_jm hj (by decide +kernel) ?_
    refine ⟨j, k, [x], x, rfl, hj, hk, (by show 1 ≤ 12; decide), rfl, fun z => absurd rfl z, fun _ => ⟨true, D.mD, fun _ y hy => ?_, fun z => nomatch z⟩⟩
    walk_at "go"
    exact q
abbrev s__law_coin_by : Stmt := top 28
theorem sc__law_coin_by : FnScope ["_law_last", "_law_cell", "_law_more"] ["_law_last", "_law_cell"] (defScope s__law_coin_by) := ⟨rfl, rfl, rfl, by decide +kernel, rfl, by decide +kernel, by decide +kernel⟩

def spCoin : Sp := fun vs H Q _ => ∃ (l c : Int), vs = [.int l, .int c] ∧ 1 ≤ l ∧ ∀ m : Int, Q (.int m) H
theorem ok_coin {f : Addr} {fd : FuncData} (F : Fun K "_law_coin_by" "_law_coin_by" s__law_coin_by f fd) (T : Bn mg) : FnOk P w K mg base CX0 1 f fd ["_law_last", "_law_cell"] spCoin := by
  refine F.ok sc__law_coin_by (fun vs H Q E h => ?_) (fun cdv A0 outer s H vs Q E hr h => ?_)
  · obtain ⟨l, c, rfl, _⟩ := h
    rfl
  · obtain ⟨l, c, rfl, l1, q⟩ := h
    refine ⟨_, (pss_cons (ps_set (i := 2) sc__law_coin_by.nd rfl (by first | exact Or.inl rfl | exact Or.inr rfl) (pe_op op_fdiv (pv 1) pe_int))
      (pss_cons (ps_if (PW.pt (pw_or (pt_cmpR op_eq (pe_op op_mod (pv 1) pe_int) pe_int (nomark _)) (pw_or1 (pt_cmpR op_eq (pe_op op_mod (pv 1) pe_int) pe_int (nomark _))))) (pss_one (ps_ret (pe_op op_mul (pv 0) (pe_op op_add pe_int (pe_op op_mod (pv 2) pe_int))))) pss_nil)
      (pss_cons (ps_if (pt_cmpR op_eq (pe_op op_mod (pv 1) pe_int) pe_int (nomark _)) (pss_one (ps_ret (pe_op op_sub (pe_op op_mul (pv 0) (pe_op op_add pe_int (pe_op op_mod (pv 2) pe_int))) pe_int))) pss_nil)
      (pss_cons (ps_if (pt_cmpR op_eq (pe_op op_mod (pv 1) pe_int) pe_int (nomark _)) (pss_one (ps_ret (pe_op op_add (pe_op op_mul (pv 0) (pe_op op_add pe_int (pe_op op_mod (pv 2) (pe_op op_add (pe_op op_pow pe_int pe_int) pe_int)))) (pe_op op_mod (pe_op op_fdiv (pv 2) pe_int) (pv 0))))) pss_nil)
      (pss_cons (ps_if (pt_cmpR op_eq (pe_op op_mod (pv 1) pe_int) pe_int (nomark _)) (pss_one (ps_ret (pe_op op_sub (pv 0) (pe_op op_mod (pv 2) pe_int)))) pss_nil)
      (pss_cons (ps_if (pt_cmpR op_eq (pe_op op_mod (pv 1) pe_int) pe_int (nomark _)) (pss_one (ps_ret (pe_op op_add (pe_op op_add (pe_op op_pow pe_int pe_int) pe_int) (pe_op op_mod (pv 2) pe_int)))) pss_nil)
      (pss_one (ps_ret (pe_op op_add (pe_op op_add (pv 0) pe_int) (pe_op op_mod (pv 2) pe_int)))))))))), ?_⟩
    try dsimp only [cxOf]
    refine g_start [some (.int l), some (.int c), none] rfl ?_
    walk_at "go"
    refine g_iteD (fun _ => ?_) (fun _ => ?_)
    · refine g_iteT ?_
      walk_at "go"
      refine g_I (.inr (by omega)) ?_
      exact q _
    walk_at "go"
    refine g_iteD (fun _ => ?_) (fun _ => ?_)
    · walk_at "go"
      refine g_I (.inr (by omega)) ?_
      exact q _
    walk_at "go"
    refine g_iteD (fun _ => ?_) (fun _ => ?_)
    · walk_at "go"
      refine g_I (.inr (by omega)) ?_
      walk_at "go"
      exact q _
    walk_at "go"
    refine g_iteD (fun _ => ?_) (fun _ => ?_)
    · walk_at "go"
      have z : (0 : Int) < 10 ^ (15 : Int).toNat + 37 := by decide
      have z1 := Int.emod_nonneg (c / 8) (show (10 ^ (15 : Int).toNat + 37 : Int) ≠ 0 by decide)
      have z2 := Int.emod_lt_of_pos (c / 8) z
      have z3 : (10 ^ (15 : Int).toNat + 37 : Int) < 2 ^ 60 := by decide
      refine g_I (.inr (by omega)) ?_
      walk_at "go"
      refine g_I (by show (0 : Int) < _; omega) ?_
      walk_at "go"
      exact q _
    walk_at "go"
    refine g_iteD (fun _ => ?_) (fun _ => ?_)
    · walk_at "go"
      exact q _
    walk_at "go"
    refine g_iteD (fun _ => ?_) (fun _ => ?_)
    · walk_at "go"
      exact q _
    walk_at "go"
    exact q _
end
end Cj

namespace Cj
open PySem PySem.Spec PyProof.Rows L2
/-- all but j and r stands -/
def But2 (j r : Addr) (H H' : Hp) : Prop := ∀ b o, H b = some o → b ≠ j → b ≠ r → H' b = some o
section
variable {P : Program} {w : World} {K : PySem.W.Frag} {mg : Str → Option Value} {base : Heap} {R W A G T' C D' J : Addr} {b1 b2 b3 b4 b5 : Bool}
abbrev s__law_deed : Stmt := top 33
theorem sc__law_deed : FnScope ["_law_judge", "_law_row", "_law_cell", "_law_found", "_law_coin"] ["_law_judge", "_law_row", "_law_cell"] (defScope s__law_deed) := ⟨rfl, rfl, rfl, by decide +kernel, rfl, by decide +kernel, by decide +kernel⟩

def spDeed (J : Addr) : Sp := fun vs H Q _ => ∃ (j k r : Addr) (cs : List Int) (c : Int), vs = [.ref j, .ref r, .int c] ∧ JAt J H j k ∧ H k = some (LI cs) ∧ H r = some (LI cs) ∧ Row cs ∧ k ≠ r ∧
  ∀ H' k' cs', But2 j r H H' → JAt J H' j k' → H' k' = some (LI cs') → H' r = some (LI cs') → Row cs' → (k' = k ∨ H k' = none) → Q (.bl true) H'
theorem ok_deed {f : Addr} {fd : FuncData} (F : Fun K "_law_deed" "_law_deed" s__law_deed f fd) (T : Bn mg) (c : JCls K J) (m_fewer : CalM P w K mg base (L2.CX P w) 1 J "fewer" ["self"] (spFewer J D')) (c__law_off_refused : Cal P w K mg base 2 "_law_off_refused" ["_law_judge"] (spOff J))
    (c__law_whole : Cal P w K mg base 1 "_law_whole" ["_law_found"] spWhole) (c__law_coin_by : Cal P w K mg base 1 "_law_coin_by" ["_law_last", "_law_cell"] spCoin) (c__law_put_refused : Cal P w K mg base 3 "_law_put_refused" ["_law_judge", "_law_coin"] (spPutR J))
    (c__law_put : Cal P w K mg base 3 "_law_put" ["_law_judge", "_law_coin"] (spPut J)) : FnOk P w K mg base CX0 4 f fd ["_law_judge", "_law_row", "_law_cell"] (spDeed J) := by
  refine F.ok sc__law_deed (fun vs H Q E h => ?_) (fun cdv A0 outer s H vs Q E hr h => ?_)
  · obtain ⟨j, k, r, cs, x, rfl, _⟩ := h
    rfl
  · obtain ⟨j, k, r, cs, x, rfl, hj, hk, hrr, Rw, nkr, q⟩ := h
    refine ⟨_, (pss_cons (ps_if (pt_cmpR op_eq (pe_op op_mod (pv 2) pe_int) pe_int (nomark _)) (pss_cons (ps_if (pt_cmpR op_eq (pe_callB call_ln (by rfl) T.m_len PySem.boot_len (pa_cons (pv 1) pa_nil)) pe_int (nomark _)) (pss_one (ps_ret (pe_cal c__law_off_refused hr (by decide) (pa_cons (pv 0) pa_nil)))) pss_nil)
      (pss_cons (ps_set (i := 3) sc__law_deed.nd rfl (by first | exact Or.inl rfl | exact Or.inr rfl) (pe_m0L m_fewer c hr (by decide) (pv 0)))
      (pss_one (ps_ret (pe_and (pe_cal c__law_whole hr (by decide) (pa_cons (pv 3) pa_nil)) (pe_one (pe_cmpR op_eq (pv 3) (pe_bm0 PySem.F.plainAttrs_list PySem.F.slot_list_pop PySem.F.type_list_pop mt_pop (pv 1)) (nomark _)))))))) pss_nil)
      (pss_cons (ps_set (i := 4) sc__law_deed.nd rfl (by first | exact Or.inl rfl | exact Or.inr rfl) (pe_cal c__law_coin_by hr (by decide) (pa_cons (pe_ix ix_list (pv 1) (pe_un un_neg pe_int) (fun _ _ => rfl)) (pa_cons (pv 2) pa_nil))))
      (pss_cons (ps_if (PW.pt (pw_or (pt_cmpR op_eq (pe_callB call_ln (by rfl) T.m_len PySem.boot_len (pa_cons (pv 1) pa_nil)) pe_int (nomark _)) (pw_or (pt_cmpR op_le (pv 4) (pe_ix ix_list (pv 1) (pe_un un_neg pe_int) (fun _ _ => rfl)) (nomark _)) (pw_or1 (pt_cmpR op_gt (pv 4) (pe_op op_pow pe_int pe_int) (nomark _)))))) (pss_one (ps_ret (pe_cal c__law_put_refused hr (by decide) (pa_cons (pv 0) (pa_cons (pv 4) pa_nil))))) pss_nil)
      (pss_cons (ps_expr (pe_bm PySem.F.plainAttrs_list PySem.F.slot_list_append PySem.F.type_list_append mt_append (pv 1) (pa_cons (pv 4) pa_nil)))
      (pss_one (ps_ret (pe_cal c__law_put hr (by decide) (pa_cons (pv 0) (pa_cons (pv 4) pa_nil))))))))), ?_⟩
    try dsimp only [cxOf]
    refine g_start [some (.ref j), some (.ref r), some (.int x), none, none] rfl ?_
    have R12 := Rw.len
    have R0 := Rw.ne
    have njr : j ≠ r := by
      obtain ⟨dx, e⟩ := hj
      exact ne_of e hrr (by intro z; cases z)
    obtain ⟨last, hlast⟩ : ∃ y, cs[cs.length - 1]? = some y := ⟨_, List.getElem?_eq_getElem (by omega)⟩
    have l1 := Rw.pos _ _ hlast
    walk_at "go"
    refine g_iteD (fun _ => ?_) (fun _ => ?_)
    · walk_at "go"
      refine g_lnI (sq_of hrr) ?_
      walk_at "go"
      refine g_iteD (fun one => ?_) (fun many => ?_)
      · obtain ⟨y, rfl⟩ : ∃ y, cs = [y] := by
          match cs, one with
          | [y], _ => exact ⟨y, rfl⟩
        walk_at "go"
        refine ⟨j, k, y, rfl, hj, hk, ?_⟩
        exact q H k [y] (fun _ _ e _ _ => e) hj hk hrr Rw (.inl rfl)
      walk_at "go"
      refine g_meth ?_
      walk_at "go"
      refine g_jm hj (by decide +kernel) ?_
      walk_at "go"
      refine ⟨j, k, cs, last, rfl, hj, hk, R12, hlast, fun ne H1 k1 b1 b2 b3 b4 => ?_, fun z => absurd z (by omega)⟩
      have er1 := b1 _ _ hrr (Ne.symm njr)
      have nk1 : r ≠ k1 := ne_of_none hrr b3
      walk_at "go"
      refine ⟨_, rfl, ?_⟩
      walk_at "go"
      refine ⟨.inl ⟨rfl, _, sq_of er1⟩, ?_⟩
      refine ⟨r, _, .int last, rfl, rfl, er1, by rw [LI_len, List.getElem?_map, hlast]; rfl, ?_⟩
      walk_at "go"
      rw [decide_eq_true rfl, List.dropLast_eq_take, LI_len, ← List.map_take]
      refine q _ k1 _ (fun b o e nj nr => ?_) ?_ ?_ upd_same (Rw.cut ne) (.inr b3)
      · rw [upd_ne nr]
        exact b1 _ _ e nj
      · obtain ⟨dx, e⟩ := b2
        exact ⟨dx, by rw [upd_ne njr]; exact e⟩
      · rw [upd_ne (Ne.symm nk1)]
        exact b4
    walk_at "go"
    refine g_ix (sq_of hrr) (at_neg1 hlast) ?_
    walk_at "go"
    refine ⟨last, x, rfl, l1, fun m => ?_⟩
    walk_at "go"
    refine g_lnI (sq_of hrr) ?_
    walk_at "go"
    refine g_iteD (c := (cs.length : Int) = 12) (fun c1 => ?b1) (fun c1 => ?_)
    rotate_left
    walk_at "go"
    refine g_ix (sq_of hrr) (at_neg1 hlast) ?_
    walk_at "go"
    refine g_iteD (c := m ≤ last) (fun c2 => ?b2) (fun c2 => ?_)
    rotate_left
    walk_at "go"
    refine g_iteD (c := (10 : Int) ^ (60 : Int).toNat < m) (fun c3 => ?b3) (fun c3 => ?_)
    case b1 | b2 | b3 =>
      walk_at "go"
      refine ⟨j, k, cs, m, rfl, hj, hk, R12, fun z => ?_, fun H1 s1 => ?_⟩
      · obtain ⟨y1, y2, y3⟩ := z.last hlast
        have e60 : (10 : Int) ^ (60 : Int).toNat = 10 ^ 60 := rfl
        omega
      · obtain ⟨dx, e⟩ := hj
        exact q H1 k cs (fun _ _ e _ _ => s1 _ _ e) ⟨dx, s1 _ _ e⟩ (s1 _ _ hk) (s1 _ _ hrr) Rw (.inl rfl)
    have c4 : ¬ (10 : Int) ^ 60 < m := c3
    have good := Rw.more hlast (show last < m by omega) (show m ≤ 10 ^ 60 by omega) (by omega)
    walk_at "go"
    refine ⟨.inl ⟨rfl, _, sq_of hrr⟩, ?_⟩
    walk_at "go"
    refine g_app hrr (small_lt (by rw [LI_len]; omega)) ?_
    rw [LI_app]
    walk_at "go"
    obtain ⟨dx, ej⟩ := hj
    refine ⟨j, k, cs, m, rfl, ⟨dx, by rw [upd_ne njr]; exact ej⟩, by rw [upd_ne nkr]; exact hk, R12, good, fun H1 k1 b1 b2 b3 b4 => ?_⟩
    have nk1 : r ≠ k1 := ne_of_none upd_same b3
    rw [upd_ne (Ne.symm nk1)] at b3
    refine q H1 k1 _ (fun b o e nj nr => b1 _ _ (by rw [upd_ne nr]; exact e) nj) b2 b4 (b1 _ _ upd_same (Ne.symm njr)) good (.inr b3)
abbrev s__law_row_is : Stmt := top 34
theorem sc__law_row_is : FnScope ["_law_judge", "_law_row", "_law_found", "_law_number", "_law_other"] ["_law_judge", "_law_row"] (defScope s__law_row_is) := ⟨rfl, rfl, rfl, by decide +kernel, rfl, by decide +kernel, by decide +kernel⟩

def spRowIs (J : Addr) : Sp := fun vs H Q _ => ∃ (j k r : Addr) (cs : List Int), vs = [.ref j, .ref r] ∧ JAt J H j k ∧ H k = some (LI cs) ∧ H r = some (LI cs) ∧ Row cs ∧ ∀ H', Same H H' → Q (.bl true) H'
theorem fives {cs : List Int} (h : 0 < cs.length) (y z : Int) : (cs ++ [z]).set 0 y = [y] ++ cs.drop 1 ++ [z] := by
  cases cs with
  | nil => cases h
  | cons a t => rfl
theorem ok_rowIs {f : Addr} {fd : FuncData} (F : Fun K "_law_row_is" "_law_row_is" s__law_row_is f fd) (T : Bn mg) (c : JCls K J) (m_row : CalM P w K mg base CX0 1 J "row" ["self"] (spJRow K J)) (c__law_whole : Cal P w K mg base 1 "_law_whole" ["_law_found"] spWhole) :
    FnOk P w K mg base CX0 2 f fd ["_law_judge", "_law_row"] (spRowIs J) := by
  refine F.ok sc__law_row_is (fun vs H Q E h => ?_) (fun cdv A0 outer s H vs Q E hr h => ?_)
  · obtain ⟨j, k, r, cs, rfl, _⟩ := h
    rfl
  · obtain ⟨j, k, r, cs, rfl, ⟨dx, hj⟩, hk, hrr, Rw, q⟩ := h
    refine ⟨_, (pss_cons (ps_set (i := 2) sc__law_row_is.nd rfl (by first | exact Or.inl rfl | exact Or.inr rfl) (pe_m0 m_row c hr (by decide) (pv 0)))
      (pss_cons (ps_if (PW.pt (pw_or (pt_not (pt_val (pe_callB call_isi (by rfl) T.m_isinstance (by decide +kernel) (pa_cons (pv 2) (pa_cons (pe_bltn (v := .ty "list") rfl T.m_list (by decide +kernel) rfl) pa_nil))))) (pw_or1 (pt_cmpR (op_neD hr.units) (pv 2) (pv 1) (nomark _))))) (pss_one (ps_ret pe_bl)) pss_nil)
      (pss_cons (ps_for PassesOwn.never rfl (pi_list (pv 2)) (pg_name (i := 3) sc__law_row_is.nd rfl (by first | exact Or.inl rfl | exact Or.inr rfl)) (pss_one (ps_if (pt_not (pt_val (pe_cal c__law_whole hr (by decide) (pa_cons (pv 3) pa_nil)))) (pss_one (ps_ret pe_bl)) pss_nil)))
      (pss_cons (ps_set (i := 4) sc__law_row_is.nd rfl (by first | exact Or.inl rfl | exact Or.inr rfl) (pe_m0 m_row c hr (by decide) (pv 0)))
      (pss_cons (ps_expr (pe_bm PySem.F.plainAttrs_list PySem.F.slot_list_append PySem.F.type_list_append mt_append (pv 2) (pa_cons pe_int pa_nil)))
      (pss_cons (ps_asg pe_int (pg_sub (pv 2) pe_int set_list))
      (pss_one (ps_ret (pe_and (pe_cmpR (op_eqD hr.units) (pv 4) (pv 1) (nomark _)) (pe_and (pe_cmpR (op_eqD hr.units) (pe_m0 m_row c hr (by decide) (pv 0)) (pv 1) (nomark _)) (pe_one (pe_cmpR (op_eqD hr.units) (pv 2) (pe_op op_cat (pe_op op_cat (pe_lst (pa_cons pe_int pa_nil)) (pe_slice sl_list (pv 1) (po_some pe_int) po_none)) (pe_lst (pa_cons pe_int pa_nil))) (nomark _))))))))))))), ?_⟩
    try dsimp only [cxOf]
    refine g_start [some (.ref j), some (.ref r), none, none, none] rfl ?_
    have R12 := Rw.len
    have R0 := Rw.ne
    walk_at "go"
    refine g_meth ?_
    walk_at "go"
    refine g_jm ⟨dx, hj⟩ (by decide +kernel) ?_
    refine ⟨j, k, cs, rfl, ⟨dx, hj⟩, sq_of hk, fun p H1 np s1 e1 => ?_⟩
    have er1 := s1 _ _ hrr
    walk_at "go"
    refine g_isLst e1 ?_
    walk_at "go"
    refine g_neS (sq_of e1) (sq_of er1) ?_
    walk_at "go"
    refine f_L (sq_of e1) (fun i σ' H' => ∃ x, σ' = [some (.ref j), some (.ref r), some (.ref p), x, none] ∧ H' = H1) ⟨_, rfl, rfl⟩ (fun i σ' H' _ ⟨_, _, e⟩ => by rw [e]; exact sq_of e1) ?_ ?_ ?_
    · rintro i x σ' H' hi ⟨y, rfl, rfl⟩
      obtain ⟨z, rfl, _⟩ := getD_map hi
      walk_at "go"
      refine ⟨_, rfl, ?_⟩
      walk_at "go"
      exact ⟨_, rfl, rfl⟩
    · rintro σ' H' ⟨y, rfl, rfl⟩
      walk_at "go"
      refine g_meth ?_
      walk_at "go"
      refine g_jm ⟨dx, s1 _ _ hj⟩ (by decide +kernel) ?_
      refine ⟨j, k, cs, rfl, ⟨dx, s1 _ _ hj⟩, sq_of (s1 _ _ hk), fun p2 H2 np2 s2 e2 => ?_⟩
      have ep2 := s2 _ _ e1
      have s12 := s1.trans s2
      have npp : p2 ≠ p := Ne.symm (ne_of_none e1 np2)
      walk_at "go"
      refine ⟨.inl ⟨rfl, _, sq_of ep2⟩, ?_⟩
      walk_at "go"
      refine g_app ep2 (small_lt (by rw [LI_len]; omega)) ?_
      rw [LI_app]
      walk_at "go"
      refine g_setL upd_same (ixN_nat (j := 0) (by rw [LI_len, List.length_append]; show 0 < cs.length + 1; omega)) ?_
      rw [LI_set, upd_upd, fives R0]
      have s3 : Same H (upd H2 p (LI ([5] ++ cs.drop 1 ++ [0]))) := same_mut s12 np
      have e3 : (upd H2 p (LI ([5] ++ cs.drop 1 ++ [0]))) p = some (LI ([5] ++ cs.drop 1 ++ [0])) := upd_same
      have e23 : (upd H2 p (LI ([5] ++ cs.drop 1 ++ [0]))) p2 = some (LI cs) := by rw [upd_ne npp]; exact e2
      generalize upd H2 p (LI ([5] ++ cs.drop 1 ++ [0])) = H3 at s3 e3 e23 ⊢
      walk_at "go"
      refine g_eqS (sq_of e23) (sq_of (s3 _ _ hrr)) ?_
      walk_at "go"
      refine g_meth ?_
      walk_at "go"
      refine g_jm ⟨dx, s3 _ _ hj⟩ (by decide +kernel) ?_
      refine ⟨j, k, cs, rfl, ⟨dx, s3 _ _ hj⟩, sq_of (s3 _ _ hk), fun p4 H4 np4 s4 e4 => ?_⟩
      have s34 := s3.trans s4
      walk_at "go"
      refine g_eqS (sq_of e4) (sq_of (s34 _ _ hrr)) ?_
      walk_at "go"
      refine ⟨small_le (by show 1 ≤ 100000; decide), fun p5 np5 => ?_⟩
      have s5 := same_new (o := .lst [.int 5]) np5
      walk_at "go"
      refine g_slL (sq_of (s5 _ _ (s34 _ _ hrr))) fun p6 np6 => ?_
      rw [show (1 : Int) = ((1 : Nat) : Int) from rfl, cut_from, ← List.map_drop]
      have s6 := same_new (o := LI (cs.drop 1)) np6
      refine g_cat (s6 _ _ upd_same) upd_same (small_le (by rw [LI_len, List.length_drop]; show 1 + _ ≤ _; omega)) fun p7 np7 => ?_
      have s57 := s5.trans (s6.trans (same_new (o := .lst ([V.int 5] ++ (cs.drop 1).map V.int)) np7))
      walk_at "go"
      refine ⟨small_le (by show 1 ≤ 100000; decide), fun p8 np8 => ?_⟩
      have s8 := same_new (o := .lst [.int 0]) np8
      refine g_cat (s8 _ _ upd_same) upd_same (small_le (by rw [List.length_append, LI_len, List.length_drop]; show 1 + _ + 1 ≤ _; omega)) fun p9 np9 => ?_
      have s59 := s57.trans (s8.trans (same_new (o := .lst ([V.int 5] ++ (cs.drop 1).map V.int ++ [V.int 0])) np9))
      refine g_eqS (ns := [5] ++ cs.drop 1 ++ [0]) (sq_of (s59 _ _ (s4 _ _ e3))) (sq_of (by rw [upd_same, List.map_append, List.map_append]; rfl)) ?_
      exact q _ (s34.trans s59)
    · intro Q' q'
      walk_at "go"
      exact q'
end
end Cj

namespace Cj
open PySem PySem.Spec PyProof.Rows L2
theorem pair_shaped (a : Int) (ns : List Int) : SeqAt.shaped (.tuple [.int a, .list (ns.map PyData.int)]) = true := by
  have h1 := PySem.W.depthAll_ints ns
  have h2 : PyData.depth (.tuple [.int a, .list (ns.map PyData.int)]) ≤ 64 := by
    simp only [PyData.depth, PyData.depthAll]
    omega
  show (PyData.canLay0 (.tuple [.int a, .list (ns.map PyData.int)]) && decide (PyData.depth (.tuple [.int a, .list (ns.map PyData.int)]) ≤ 64)) = true
  rw [Bool.and_eq_true]
  exact ⟨by simp only [PyData.canLay0, PyData.canLayAll0, PySem.W.canLayAll0_ints ns, Bool.and_self, Bool.and_true], decide_eq_true h2⟩
theorem pair_eqv (a : Int) (ns : List Int) : PyData.eqv (.tuple [.int a, .list (ns.map PyData.int)]) (.tuple [.int a, .list (ns.map PyData.int)]) = true := by
  show ((a == a) && (PyData.eqvAll (ns.map PyData.int) (ns.map PyData.int) && true)) = true
  rw [eqv_ints, beq_self_eq_true, decide_eq_true rfl] <;> rfl
section
variable {K : PySem.W.Frag} {H : Hp} {Q : VK} {t1 t2 q1 q2 : Addr} {p : Int × List Int}
theorem dp_pair (h1 : H t1 = some (.tup [.int p.1, .ref q1])) (h2 : H q1 = some (LI p.2)) : Dp K H (.ref t1) (.tuple [.int p.1, .list (p.2.map PyData.int)]) :=
  .tup (sqt_of h1) (.cons (.int _) (.cons (.lst (sq_of h2) (dp_ints p.2)) .nil))
theorem g_eqP (h1 : H t1 = some (.tup [.int p.1, .ref q1])) (h2 : H q1 = some (LI p.2)) (h3 : H t2 = some (.tup [.int p.1, .ref q2])) (h4 : H q2 = some (LI p.2)) (q : Q (.bl true) H) : rEqD K (.ref t1) (.ref t2) H Q :=
  ⟨_, _, dp_pair h1 h2, dp_pair h3 h4, pair_shaped _ _, pair_shaped _ _, by rw [pair_eqv]; exact q⟩
theorem g_neP (h1 : H t1 = some (.tup [.int p.1, .ref q1])) (h2 : H q1 = some (LI p.2)) (h3 : H t2 = some (.tup [.int p.1, .ref q2])) (h4 : H q2 = some (LI p.2)) (q : Q (.bl false) H) : rNeD K (.ref t1) (.ref t2) H Q :=
  ⟨_, _, dp_pair h1 h2, dp_pair h3 h4, pair_shaped _ _, pair_shaped _ _, by rw [pair_eqv]; exact q⟩
end
section
variable {P : Program} {w : World} {K : PySem.W.Frag} {mg : Str → Option Value} {base : Heap} {J : Addr}
abbrev s__law_verdict_is : Stmt := top 35
theorem sc__law_verdict_is : FnScope ["_law_judge", "_law_row", "_law_found", "_law_due", "_law_other"] ["_law_judge", "_law_row"] (defScope s__law_verdict_is) := ⟨rfl, rfl, rfl, by decide +kernel, rfl, by decide +kernel, by decide +kernel⟩

theorem ok_verdIs {f : Addr} {fd : FuncData} (F : Fun K "_law_verdict_is" "_law_verdict_is" s__law_verdict_is f fd) (T : Bn mg) (c : JCls K J) (m_verdict : CalM P w K mg base CX0 6 J "verdict" ["self"] (spVerdict K J)) (c_judged : Cal P w K mg base 5 "judged" ["coins"] (spJudged K)) :
    FnOk P w K mg base CX0 7 f fd ["_law_judge", "_law_row"] (spRowIs J) := by
  refine F.ok sc__law_verdict_is (fun vs H Q E h => ?_) (fun cdv A0 outer s H vs Q E hr h => ?_)
  · obtain ⟨j, k, r, cs, rfl, _⟩ := h
    rfl
  · obtain ⟨j, k, r, cs, rfl, ⟨dx, hj⟩, hk, hrr, Rw, q⟩ := h
    refine ⟨_, (pss_cons (ps_set (i := 2) sc__law_verdict_is.nd rfl (by first | exact Or.inl rfl | exact Or.inr rfl) (pe_m0 m_verdict c hr (by decide) (pv 0)))
      (pss_cons (ps_set (i := 3) sc__law_verdict_is.nd rfl (by first | exact Or.inl rfl | exact Or.inr rfl) (pe_cal c_judged hr (by decide) (pa_cons (pe_callTy call_ls (by rfl) T.m_list (by decide +kernel) (pa_cons (pv 1) pa_nil)) pa_nil)))
      (pss_cons (ps_if (PW.pt (pw_or (pt_cmpR op_is1 (pv 3) pe_non (nomark _)) (pw_or1 (pt_cmpR op_is1 (pv 2) pe_non (nomark _))))) (pss_one (ps_ret (pe_and (pe_cmpR op_is1 (pv 3) pe_non (nomark _)) (pe_one (pe_cmpR op_is1 (pv 2) pe_non (nomark _)))))) pss_nil)
      (pss_cons (ps_if (PW.pt (pw_or (pt_not (pt_val (pe_callB call_isi (by rfl) T.m_isinstance (by decide +kernel) (pa_cons (pv 2) (pa_cons (pe_bltn (v := .ty "tuple") rfl T.m_tuple (by decide +kernel) rfl) pa_nil))))) (pw_or1 (pt_cmpR (op_neD hr.units) (pv 2) (pv 3) (nomark _))))) (pss_one (ps_ret pe_bl)) pss_nil)
      (pss_cons (ps_set (i := 4) sc__law_verdict_is.nd rfl (by first | exact Or.inl rfl | exact Or.inr rfl) (pe_m0 m_verdict c hr (by decide) (pv 0)))
      (pss_cons (ps_expr (pe_bm PySem.F.plainAttrs_list PySem.F.slot_list_append PySem.F.type_list_append mt_append (pe_ix ix_tup (pv 2) pe_int (fun _ _ => rfl)) (pa_cons pe_int pa_nil)))
      (pss_cons (ps_asg pe_int (pg_sub (pe_ix ix_tup (pv 2) pe_int (fun _ _ => rfl)) pe_int set_list))
      (pss_one (ps_ret (pe_and (pe_cmpR (op_eqD hr.units) (pv 4) (pv 3) (nomark _)) (pe_and (pe_cmpR (op_eqD hr.units) (pe_m0 m_verdict c hr (by decide) (pv 0)) (pv 3) (nomark _)) (pe_one (pe_cmpR (op_eqD hr.units) (pe_ix ix_tup (pv 2) pe_int (fun _ _ => rfl)) (pe_op op_cat (pe_op op_cat (pe_lst (pa_cons pe_int pa_nil)) (pe_slice sl_list (pe_ix ix_tup (pv 3) pe_int (fun _ _ => rfl)) (po_some pe_int) po_none)) (pe_lst (pa_cons pe_int pa_nil))) (nomark _)))))))))))))), ?_⟩
    try dsimp only [cxOf]
    refine g_start [some (.ref j), some (.ref r), none, none, none] rfl ?_
    have R12 := Rw.len
    have R0 := Rw.ne
    walk_at "go"
    refine g_meth ?_
    walk_at "go"
    refine g_jm ⟨dx, hj⟩ (by decide +kernel) ?_
    refine ⟨j, k, cs, rfl, ⟨dx, hj⟩, sq_of hk, Rw, fun v1 H1 s1 V1 => ?_⟩
    walk_at "go"
    refine g_lsN (sq_of (s1 _ _ hrr)) fun p0 H2 np0 s2 e2 => ?_
    walk_at "go"
    refine ⟨p0, cs, rfl, sq_of e2, Rw, fun v2 H3 s3 V2 => ?_⟩
    have s13 := s1.trans (s2.trans s3)
    have s23 := s2.trans s3
    walk_at "go"
    cases ej : judgedM cs with
    | none =>
      rw [ej] at V1 V2
      have x1 : v1 = .non := V1
      have x2 : v2 = .non := V2
      subst x1 x2
      refine g_iteD (fun _ => ?_) (fun z => absurd rfl z)
      walk_at "go"
      refine g_iteD (fun _ => ?_) (fun z => absurd rfl z)
      walk_at "go"
      exact q _ s13
    | some p =>
      have Y := (verdict_some Rw ej).way Rw
      have yl := Y.len
      rw [ej] at V1 V2
      obtain ⟨t1, q1, rfl, g1, g2, n1, n2⟩ := V1
      have h1 := s23 _ _ g1
      have h2 := s23 _ _ g2
      obtain ⟨t2, q2, rfl, h3, h4, n3, n4⟩ := V2
      refine g_iteD (fun z => nomatch z) (fun _ => ?_)
      walk_at "go"
      refine g_iteD (fun z => nomatch z) (fun _ => ?_)
      walk_at "go"
      refine g_isTup h1 ?_
      walk_at "go"
      refine g_neP (p := p) h1 h2 h3 h4 ?_
      walk_at "go"
      refine g_meth ?_
      walk_at "go"
      refine g_jm ⟨dx, s13 _ _ hj⟩ (by decide +kernel) ?_
      refine ⟨j, k, cs, rfl, ⟨dx, s13 _ _ hj⟩, sq_of (s13 _ _ hk), Rw, fun v3 H4 s4 V3 => ?_⟩
      rw [ej] at V3
      obtain ⟨t3, q3, rfl, h5, h6, n5, n6⟩ := V3
      have s14 := s13.trans s4
      have k1 := s4 _ _ h1
      have k2 := s4 _ _ h2
      have k3 := s4 _ _ h3
      have k4 := s4 _ _ h4
      have d13 : q3 ≠ q1 := Ne.symm (ne_of_none h2 n6)
      have d12 : q2 ≠ q1 := Ne.symm (ne_of_none (s2 _ _ g2) n4)
      have dt1 : t1 ≠ q1 := ne_of k1 k2 (by intro z; cases z)
      have dt2 : t2 ≠ q1 := ne_of k3 k2 (by intro z; cases z)
      have dt3 : t3 ≠ q1 := ne_of h5 k2 (by intro z; cases z)
      walk_at "go"
      refine g_ixT (sqt_of k1) (atI_nat (j := 1) rfl) ?_
      walk_at "go"
      refine ⟨.inl ⟨rfl, _, sq_of k2⟩, ?_⟩
      walk_at "go"
      refine g_app k2 (small_lt (by rw [LI_len]; omega)) ?_
      rw [LI_app]
      walk_at "go"
      refine g_ixT (sqt_of (by rw [upd_ne dt1]; exact k1)) (atI_nat (j := 1) rfl) ?_
      walk_at "go"
      refine g_setL upd_same (ixN_nat (j := 0) (by rw [LI_len, List.length_append]; show 0 < p.2.length + 1; omega)) ?_
      rw [LI_set, upd_upd, fives (by omega)]
      have s5 : Same H (upd H4 q1 (LI ([9] ++ p.2.drop 1 ++ [0]))) := same_mut s14 n2
      have c1 : (upd H4 q1 (LI ([9] ++ p.2.drop 1 ++ [0]))) q1 = some (LI ([9] ++ p.2.drop 1 ++ [0])) := upd_same
      have c2 : (upd H4 q1 (LI ([9] ++ p.2.drop 1 ++ [0]))) t1 = _ := (upd_ne dt1).trans k1
      have c3 : (upd H4 q1 (LI ([9] ++ p.2.drop 1 ++ [0]))) t2 = _ := (upd_ne dt2).trans k3
      have c4 : (upd H4 q1 (LI ([9] ++ p.2.drop 1 ++ [0]))) q2 = _ := (upd_ne d12).trans k4
      have c5 : (upd H4 q1 (LI ([9] ++ p.2.drop 1 ++ [0]))) t3 = _ := (upd_ne dt3).trans h5
      have c6 : (upd H4 q1 (LI ([9] ++ p.2.drop 1 ++ [0]))) q3 = _ := (upd_ne d13).trans h6
      generalize upd H4 q1 (LI ([9] ++ p.2.drop 1 ++ [0])) = H5 at s5 c1 c2 c3 c4 c5 c6 ⊢
      walk_at "go"
      refine g_eqP (p := p) c5 c6 c3 c4 ?_
      walk_at "go"
      refine g_meth ?_
      walk_at "go"
      refine g_jm ⟨dx, s5 _ _ hj⟩ (by decide +kernel) ?_
      refine ⟨j, k, cs, rfl, ⟨dx, s5 _ _ hj⟩, sq_of (s5 _ _ hk), Rw, fun v4 H6 s6 V4 => ?_⟩
      rw [ej] at V4
      obtain ⟨t4, q4, rfl, h7, h8, _, _⟩ := V4
      walk_at "go"
      refine g_eqP (p := p) h7 h8 (s6 _ _ c3) (s6 _ _ c4) ?_
      walk_at "go"
      refine g_ixT (sqt_of (s6 _ _ c2)) (atI_nat (j := 1) rfl) ?_
      walk_at "go"
      refine ⟨small_le (by show 1 ≤ 100000; decide), fun p5 np5 => ?_⟩
      have s7 := same_new (o := .lst [.int 9]) np5
      walk_at "go"
      refine g_ixT (sqt_of (s7 _ _ (s6 _ _ c3))) (atI_nat (j := 1) rfl) ?_
      walk_at "go"
      refine g_slL (sq_of (s7 _ _ (s6 _ _ c4))) fun p6 np6 => ?_
      rw [show (1 : Int) = ((1 : Nat) : Int) from rfl, cut_from, ← List.map_drop]
      have s8 := same_new (o := LI (p.2.drop 1)) np6
      refine g_cat (s8 _ _ upd_same) upd_same (small_le (by rw [LI_len, List.length_drop]; show 1 + _ ≤ _; omega)) fun p7 np7 => ?_
      have s9 := s7.trans (s8.trans (same_new (o := .lst ([V.int 9] ++ (p.2.drop 1).map V.int)) np7))
      walk_at "go"
      refine ⟨small_le (by show 1 ≤ 100000; decide), fun p8 np8 => ?_⟩
      have s10 := same_new (o := .lst [.int 0]) np8
      refine g_cat (s10 _ _ upd_same) upd_same (small_le (by rw [List.length_append, LI_len, List.length_drop]; show 1 + _ + 1 ≤ _; omega)) fun p9 np9 => ?_
      have s11 := s9.trans (s10.trans (same_new (o := .lst ([V.int 9] ++ (p.2.drop 1).map V.int ++ [V.int 0])) np9))
      refine g_eqS (ns := [9] ++ p.2.drop 1 ++ [0]) (sq_of (s11 _ _ (s6 _ _ c1))) (sq_of (by rw [upd_same, List.map_append, List.map_append]; rfl)) ?_
      exact q _ (s5.trans (s6.trans s11))
end
end Cj

namespace Cj
open PySem PySem.Spec PyProof.Rows L2
theorem LI_ne {cs : List Int} {j : Addr} {t : List V} : LI cs ≠ .lst (.ref j :: t) := fun z => by
  injection z with z
  cases cs with
  | nil => cases z
  | cons a b => cases z
/-- two judges and the law's rows -/
structure JS (J j0 j1 r0 r1 l rl : Addr) (H0 H : Hp) : Prop where
  ex : ∃ k0 k1 cs0 cs1, JAt J H j0 k0 ∧ JAt J H j1 k1 ∧ H k0 = some (LI cs0) ∧ H k1 = some (LI cs1) ∧ H r0 = some (LI cs0) ∧ H r1 = some (LI cs1) ∧ Row cs0 ∧ Row cs1 ∧ k0 ≠ r0 ∧ k0 ≠ r1 ∧ k1 ≠ r0 ∧ k1 ≠ r1
  hl : H l = some (.lst [.ref j0, .ref j1])
  hrl : H rl = some (.lst [.ref r0, .ref r1])
  same : Same H0 H
theorem JAt.mono {J j k : Addr} {H H' : Hp} (h : JAt J H j k) (s : Same H H') : JAt J H' j k := by
  obtain ⟨dx, e⟩ := h
  exact ⟨dx, s _ _ e⟩
theorem JAt.but {J j k r j' : Addr} {H H' : Hp} (h : JAt J H j k) (s : But2 j' r H H') (n1 : j ≠ j') (n2 : j ≠ r) : JAt J H' j k := by
  obtain ⟨dx, e⟩ := h
  exact ⟨dx, s _ _ e n1 n2⟩
theorem JAt.neL {J j k r : Addr} {H : Hp} {xs : List V} (h : JAt J H j k) (e : H r = some (.lst xs)) : j ≠ r := by
  obtain ⟨dx, e'⟩ := h
  exact ne_of e' e (by intro z; cases z)
theorem JS.mono {J j0 j1 r0 r1 l rl : Addr} {H0 H H' : Hp} (S : JS J j0 j1 r0 r1 l rl H0 H) (s : Same H H') : JS J j0 j1 r0 r1 l rl H0 H' := by
  obtain ⟨k0, k1, cs0, cs1, a, b, c, d, e, f, g⟩ := S.ex
  exact ⟨⟨k0, k1, cs0, cs1, a.mono s, b.mono s, s _ _ c, s _ _ d, s _ _ e, s _ _ f, g⟩, s _ _ S.hl, s _ _ S.hrl, S.same.trans s⟩
section
variable {K : PySem.W.Frag} {σ : L2.St} {H : Hp} {Q : VK} {t : TA}
theorem g_make {C : Addr} {sp : Sp} {dvs : List V} {E : XK} (h : t σ H fun vs H1 => ∀ x dx, H1 x = none → H1 dx = none → dx ≠ x → sp (.ref x :: (vs ++ dvs)) (upd (upd H1 dx (.own x)) x (.ins C dx [])) (fun v H2 => v = .non ∧ Q (.ref x) H2) E) : tMake C sp dvs E t σ H Q := h
end
section
variable {P : Program} {w : World} {K : PySem.W.Frag} {mg : Str → Option Value} {base : Heap} {J : Addr}
abbrev s_law : Stmt := top 36
theorem sc_law : FnScope ["_law_script", "_law_judges", "_law_rows", "_law_many", "_law_at", "_law_k", "_law_here"] ["_law_script"] (defScope s_law) := ⟨rfl, rfl, rfl, by decide +kernel, rfl, by decide +kernel, by decide +kernel⟩

def spLaw (K : PySem.W.Frag) : Sp := fun vs H Q _ => ∃ (a : Addr) (ns : List Int), vs = [.ref a] ∧ SqL K H a (ns.map V.int) ∧ ns.length ≤ 63 ∧ ∀ H', Q (.bl true) H'
theorem ok_law {f fI : Addr} {fd fdI : FuncData} (F : Fun K "law" "law" s_law f fd) (T : Bn mg) (c : JCls K J) (mk_Judge : Mk K J fI) (c_Judge : FnOk P w K mg base CX0 1 fI fdI ["self"] (spInit J)) (b_Judge : Binds K fdI ["self"] []) (gk_Judge : mg "Judge" = some (.ref J))
    (c__law_cell_at : Cal P w K mg base 1 "_law_cell_at" ["_law_script", "_law_k"] (spCell K)) (c__law_deed : Cal P w K mg base 4 "_law_deed" ["_law_judge", "_law_row", "_law_cell"] (spDeed J)) (c__law_row_is : Cal P w K mg base 2 "_law_row_is" ["_law_judge", "_law_row"] (spRowIs J))
    (c__law_verdict_is : Cal P w K mg base 7 "_law_verdict_is" ["_law_judge", "_law_row"] (spRowIs J)) : FnOk P w K mg base CX0 8 f fd ["_law_script"] (spLaw K) := by
  refine F.ok sc_law (fun vs H Q E h => ?_) (fun cdv A0 outer s H vs Q E hr h => ?_)
  · obtain ⟨a, ns, rfl, _⟩ := h
    rfl
  · obtain ⟨a, ns, rfl, hA, hn, q⟩ := h
    refine ⟨_, (pss_cons (ps_set (i := 1) sc_law.nd rfl (by first | exact Or.inl rfl | exact Or.inr rfl) (pe_lst (pa_cons (pe_make0 mk_Judge c_Judge (hr.mono (by decide)) rfl gk_Judge b_Judge .nil pass0) (pa_cons (pe_make0 mk_Judge c_Judge (hr.mono (by decide)) rfl gk_Judge b_Judge .nil pass0) pa_nil))))
      (pss_cons (ps_set (i := 2) sc_law.nd rfl (by first | exact Or.inl rfl | exact Or.inr rfl) (pe_lst (pa_cons (pe_lst (pa_cons pe_int pa_nil)) (pa_cons (pe_lst (pa_cons pe_int pa_nil)) pa_nil))))
      (pss_cons (ps_set (i := 3) sc_law.nd rfl (by first | exact Or.inl rfl | exact Or.inr rfl) (pe_callB (call_min2 rfl) (by rfl) T.m_min (by decide +kernel) (pa_cons pe_int (pa_cons (pe_callB (call_max2 rfl) (by rfl) T.m_max (by decide +kernel) (pa_cons pe_int (pa_cons (pe_op op_sub (pe_callB call_ln (by rfl) T.m_len PySem.boot_len (pa_cons (pv 0) pa_nil)) pe_int) pa_nil))) pa_nil))))
      (pss_cons (ps_set (i := 4) sc_law.nd rfl (by first | exact Or.inl rfl | exact Or.inr rfl) (pe_op op_mod (pe_op op_fdiv (pe_cal c__law_cell_at hr (by decide) (pa_cons (pv 0) (pa_cons pe_int pa_nil))) pe_int) (pe_op op_add (pv 3) pe_int)))
      (pss_cons (ps_for PassesOwn.never rfl (pi_range1 rfl T.m_range (pa_cons (pv 3) pa_nil)) (pg_name (i := 5) sc_law.nd rfl (by first | exact Or.inl rfl | exact Or.inr rfl)) (pss_cons (ps_set (i := 6) sc_law.nd rfl (by first | exact Or.inl rfl | exact Or.inr rfl) (pe_op op_mul (pe_op op_mod (pe_cal c__law_cell_at hr (by decide) (pa_cons (pv 0) (pa_cons pe_int pa_nil))) pe_int) (pe_op op_mod (pv 5) pe_int)))
      (pss_cons (ps_if (pt_not (pt_val (pe_cal c__law_deed hr (by decide) (pa_cons (pe_ix ix_list (pv 1) (pv 6) (fun _ _ => rfl)) (pa_cons (pe_ix ix_list (pv 2) (pv 6) (fun _ _ => rfl)) (pa_cons (pe_ix ix_list (pv 0) (pe_op op_add pe_int (pv 5)) (fun _ _ => rfl)) pa_nil)))))) (pss_one (ps_ret pe_bl)) pss_nil)
      (pss_cons (ps_if (PW.pt (pw_or (pt_not (pt_val (pe_cal c__law_row_is hr (by decide) (pa_cons (pe_ix ix_list (pv 1) pe_int (fun _ _ => rfl)) (pa_cons (pe_ix ix_list (pv 2) pe_int (fun _ _ => rfl)) pa_nil))))) (pw_or1 (pt_not (pt_val (pe_cal c__law_row_is hr (by decide) (pa_cons (pe_ix ix_list (pv 1) pe_int (fun _ _ => rfl)) (pa_cons (pe_ix ix_list (pv 2) pe_int (fun _ _ => rfl)) pa_nil)))))))) (pss_one (ps_ret pe_bl)) pss_nil)
      (pss_one (ps_if (PW.pt (pw_and (pt_cmpR op_in_seq (pe_op op_sub (pv 5) (pv 4)) (pe_tup (pa_cons pe_int (pa_cons pe_int pa_nil))) (by rfl)) (pw_and1 (pt_not (pt_val (pe_cal c__law_verdict_is hr (by decide) (pa_cons (pe_ix ix_list (pv 1) (pv 6) (fun _ _ => rfl)) (pa_cons (pe_ix ix_list (pv 2) (pv 6) (fun _ _ => rfl)) pa_nil)))))))) (pss_one (ps_ret pe_bl)) pss_nil))))))
      (pss_cons (ps_if (PW.pt (pw_or (pt_not (pt_val (pe_cal c__law_row_is hr (by decide) (pa_cons (pe_ix ix_list (pv 1) pe_int (fun _ _ => rfl)) (pa_cons (pe_ix ix_list (pv 2) pe_int (fun _ _ => rfl)) pa_nil))))) (pw_or1 (pt_not (pt_val (pe_cal c__law_verdict_is hr (by decide) (pa_cons (pe_ix ix_list (pv 1) pe_int (fun _ _ => rfl)) (pa_cons (pe_ix ix_list (pv 2) pe_int (fun _ _ => rfl)) pa_nil)))))))) (pss_one (ps_ret pe_bl)) pss_nil)
      (pss_one (ps_ret (pe_cal c__law_verdict_is hr (by decide) (pa_cons (pe_ix ix_list (pv 1) pe_int (fun _ _ => rfl)) (pa_cons (pe_ix ix_list (pv 2) pe_int (fun _ _ => rfl)) pa_nil))))))))))), ?_⟩
    try dsimp only [cxOf]
    refine g_start [some (.ref a), none, none, none, none, none, none] rfl ?_
    walk_at "go"
    refine g_make ?_
    walk_at "go"
    intro j0 dx nj0 ndx ne
    refine ⟨j0, dx, rfl, upd_same, fun H1 k0 b1 b2 b3 b4 => ⟨rfl, ?_⟩⟩
    have s1 : Same H H1 := Same.made nj0 ndx b1
    walk_at "go"
    refine g_make ?_
    walk_at "go"
    intro j1 dx1 nj1 ndx1 ne1
    refine ⟨j1, dx1, rfl, upd_same, fun H2 k1 c1 c2 c3 c4 => ⟨rfl, ?_⟩⟩
    have s2 : Same H1 H2 := Same.made nj1 ndx1 c1
    walk_at "go"
    refine ⟨small_le (by show 2 ≤ 100000; decide), fun l nl => ?_⟩
    have s3 := same_new (o := .lst [.ref j0, .ref j1]) nl
    walk_at "go"
    refine ⟨small_le (by show 1 ≤ 100000; decide), fun r0 nr0 => ?_⟩
    have s4 := same_new (o := .lst [.int 1]) nr0
    walk_at "go"
    refine ⟨small_le (by show 1 ≤ 100000; decide), fun r1 nr1 => ?_⟩
    have s5 := same_new (o := .lst [.int 1]) nr1
    refine ⟨small_le (by show 2 ≤ 100000; decide), fun rl nrl => ?_⟩
    have s6 := same_new (o := .lst [.ref r0, .ref r1]) nrl
    have x0 := s3 _ _ (s2 _ _ b4)
    have x1 := s3 _ _ c4
    have nk00 : k0 ≠ r0 := ne_of_none x0 nr0
    have nk10 : k1 ≠ r0 := ne_of_none x1 nr0
    have nk01 : k0 ≠ r1 := ne_of_none (s4 _ _ x0) nr1
    have nk11 : k1 ≠ r1 := ne_of_none (s4 _ _ x1) nr1
    have nrr : r0 ≠ r1 := ne_of_none (show (upd (upd H2 l (.lst [.ref j0, .ref j1])) r0 (.lst [.int 1])) r0 = some (.lst [.int 1]) from upd_same) nr1
    have njj : j0 ≠ j1 := by
      obtain ⟨d, e⟩ := b3
      exact ne_of_none e nj1
    have sA := s1.trans (s2.trans (s3.trans (s4.trans (s5.trans s6))))
    have f0 : H r0 = none := (s1.trans (s2.trans s3)).free nr0
    have f1 : H r1 = none := (s1.trans (s2.trans (s3.trans s4))).free nr1
    have fj1 : H j1 = none := s1.free nj1
    have S : JS J j0 j1 r0 r1 l rl H (upd (upd (upd (upd H2 l (.lst [.ref j0, .ref j1])) r0 (.lst [.int 1])) r1 (.lst [.int 1])) rl (.lst [.ref r0, .ref r1])) :=
      ⟨⟨k0, k1, [1], [1], b3.mono (s2.trans (s3.trans (s4.trans (s5.trans s6)))), c3.mono (s3.trans (s4.trans (s5.trans s6))), s6 _ _ (s5 _ _ (s4 _ _ x0)), s6 _ _ (s5 _ _ (s4 _ _ x1)), s6 _ _ (s5 _ _ upd_same), s6 _ _ upd_same, row_one, row_one, nk00, nk01, nk10, nk11⟩,
        s6 _ _ (s5 _ _ (s4 _ _ upd_same)), upd_same, sA⟩
    generalize upd (upd (upd (upd H2 l (.lst [.ref j0, .ref j1])) r0 (.lst [.int 1])) r1 (.lst [.int 1])) rl (.lst [.ref r0, .ref r1]) = H6 at S ⊢
    walk_at "go"
    refine g_lnI (S.same.seq hA) ?_
    walk_at "go"
    refine ⟨_, _, rfl, ?_⟩
    refine ⟨_, _, rfl, ?_⟩
    obtain ⟨M, eM, M0, M62, Ml⟩ : ∃ M : Int, (if (if ((ns.length : Int) - 1) > 0 then ((ns.length : Int) - 1) else 0) < 62 then (if ((ns.length : Int) - 1) > 0 then ((ns.length : Int) - 1) else 0) else 62) = M ∧ 0 ≤ M ∧ M ≤ 62 ∧ (0 < M → M ≤ (ns.length : Int) - 1) := by
      refine ⟨_, rfl, ?_, ?_, ?_⟩
      · split <;> split <;> omega
      · split <;> split <;> omega
      · split <;> split <;> omega
    rw [eM]
    walk_at "go"
    refine ⟨a, ns, _, rfl, S.same.seq hA, by omega, ?_⟩
    walk_at "go"
    refine g_I (by show (0 : Int) < _; omega) ?_
    walk_at "go"
    generalize cellAt ns 0 / 2 % (M + 1) = at0'
    have nl0 : ∀ {H' : Hp}, JS J j0 j1 r0 r1 l rl H H' → l ≠ r0 ∧ l ≠ r1 ∧ rl ≠ r0 ∧ rl ≠ r1 ∧ j0 ≠ l ∧ j0 ≠ rl ∧ j1 ≠ l ∧ j1 ≠ rl ∧ j0 ≠ r0 ∧ j0 ≠ r1 ∧ j1 ≠ r0 ∧ j1 ≠ r1 := fun {H'} S => by
      obtain ⟨k0, k1, cs0, cs1, a, b, c, d, e, f, g⟩ := S.ex
      exact ⟨ne_of S.hl e (Ne.symm LI_ne), ne_of S.hl f (Ne.symm LI_ne), ne_of S.hrl e (Ne.symm LI_ne), ne_of S.hrl f (Ne.symm LI_ne), a.neL S.hl, a.neL S.hrl, b.neL S.hl, b.neL S.hrl, a.neL e, a.neL f, b.neL e, b.neL f⟩
    have row0 : ∀ {H' : Hp} {Qx : VK}, JS J j0 j1 r0 r1 l rl H H' → (∀ H2, Same H' H2 → Qx (.bl true) H2) → spRowIs J [.ref j0, .ref r0] H' Qx E0 := fun {H' Qx} S qx => by
      obtain ⟨k0, k1, cs0, cs1, a, b, c, d, e, f, R0, R1, g⟩ := S.ex
      exact ⟨j0, k0, r0, cs0, rfl, a, c, e, R0, qx⟩
    have row1 : ∀ {H' : Hp} {Qx : VK}, JS J j0 j1 r0 r1 l rl H H' → (∀ H2, Same H' H2 → Qx (.bl true) H2) → spRowIs J [.ref j1, .ref r1] H' Qx E0 := fun {H' Qx} S qx => by
      obtain ⟨k0, k1, cs0, cs1, a, b, c, d, e, f, R0, R1, g⟩ := S.ex
      exact ⟨j1, k1, r1, cs1, rfl, b, d, f, R1, qx⟩
    have deed0 : ∀ {H' : Hp} {x : Int} {Qx : VK}, JS J j0 j1 r0 r1 l rl H H' → (∀ H2, JS J j0 j1 r0 r1 l rl H H2 → Qx (.bl true) H2) → spDeed J [.ref j0, .ref r0, .int x] H' Qx E0 := fun {H' x Qx} S qx => by
      obtain ⟨n1, n2, n3, n4, n5, n6, n7, n8, n9, n10, n11, n12⟩ := nl0 S
      obtain ⟨k0, k1, cs0, cs1, a, b, c, d, e, f, R0, R1, g1, g2, g3, g4⟩ := S.ex
      refine ⟨j0, k0, r0, cs0, x, rfl, a, c, e, R0, g1, fun H2 k' cs' b2 a2 c2 e2 R2 fr => qx H2 ⟨⟨k', k1, cs', cs1, a2, b.but b2 (Ne.symm njj) n11, c2, b2 _ _ d (Ne.symm (a.neL d)) g3, e2, b2 _ _ f (Ne.symm n10) (Ne.symm nrr), R2, R1, ?_, ?_, g3, g4⟩, b2 _ _ S.hl (Ne.symm n5) n1, b2 _ _ S.hrl (Ne.symm n6) n3, fun y o z => b2 _ _ (S.same _ _ z) (ne_of_none z nj0) (ne_of_none z f0)⟩⟩
      · rcases fr with rfl | fr
        · exact g1
        · exact Ne.symm (ne_of_none e fr)
      · rcases fr with rfl | fr
        · exact g2
        · exact Ne.symm (ne_of_none f fr)
    have deed1 : ∀ {H' : Hp} {x : Int} {Qx : VK}, JS J j0 j1 r0 r1 l rl H H' → (∀ H2, JS J j0 j1 r0 r1 l rl H H2 → Qx (.bl true) H2) → spDeed J [.ref j1, .ref r1, .int x] H' Qx E0 := fun {H' x Qx} S qx => by
      obtain ⟨n1, n2, n3, n4, n5, n6, n7, n8, n9, n10, n11, n12⟩ := nl0 S
      obtain ⟨k0, k1, cs0, cs1, a, b, c, d, e, f, R0, R1, g1, g2, g3, g4⟩ := S.ex
      refine ⟨j1, k1, r1, cs1, x, rfl, b, d, f, R1, g4, fun H2 k' cs' b2 a2 c2 e2 R2 fr => qx H2 ⟨⟨k0, k', cs0, cs', a.but b2 njj n10, a2, b2 _ _ c (Ne.symm (b.neL c)) g2, c2, b2 _ _ e (Ne.symm n11) nrr, e2, R0, R2, g1, g2, ?_, ?_⟩, b2 _ _ S.hl (Ne.symm n7) n2, b2 _ _ S.hrl (Ne.symm n8) n4, fun y o z => b2 _ _ (S.same _ _ z) (ne_of_none z fj1) (ne_of_none z f1)⟩⟩
      · rcases fr with rfl | fr
        · exact g3
        · exact Ne.symm (ne_of_none e fr)
      · rcases fr with rfl | fr
        · exact g4
        · exact Ne.symm (ne_of_none f fr)
    refine f_R1 (n := M) (by omega) (fun i σ' H' => ∃ x y, σ' = [some (.ref a), some (.ref l), some (.ref rl), some (.int M), some (.int at0'), x, y] ∧ JS J j0 j1 r0 r1 l rl H H') ⟨_, _, rfl, S⟩ ?_ ?_ ?_
    · rintro i σ' H' hi ⟨x, y, rfl, S⟩
      walk_at "go"
      refine ⟨a, ns, _, rfl, S.same.seq hA, by omega, ?_⟩
      walk_at "go"
      have p0 := Int.emod_nonneg (cellAt ns 0) (show (2 : Int) ≠ 0 by decide)
      have p1 := Int.emod_lt_of_pos (cellAt ns 0) (show (0 : Int) < 2 by decide)
      have p2 := Int.emod_nonneg (i : Int) (show (2 : Int) ≠ 0 by decide)
      have p3 := Int.emod_lt_of_pos (i : Int) (show (0 : Int) < 2 by decide)
      refine g_I (.inr (by omega)) ?_
      have hx : cellAt ns 0 % 2 * ((i : Int) % 2) = 0 ∨ cellAt ns 0 % 2 * ((i : Int) % 2) = 1 := by
        rcases (show cellAt ns 0 % 2 = 0 ∨ cellAt ns 0 % 2 = 1 by omega) with e | e
        · rw [e, Int.zero_mul]
          exact .inl rfl
        · rw [e, Int.one_mul]
          omega
      generalize cellAt ns 0 % 2 * ((i : Int) % 2) = here at hx ⊢
      obtain ⟨jh, rh, aj, ar, dh, vh⟩ : ∃ jh rh : Addr, atI [V.ref j0, V.ref j1] here = some (.ref jh) ∧ atI [V.ref r0, V.ref r1] here = some (.ref rh) ∧
          (∀ (H' : Hp) (x : Int) (Qx : VK), JS J j0 j1 r0 r1 l rl H H' → (∀ H2, JS J j0 j1 r0 r1 l rl H H2 → Qx (.bl true) H2) → spDeed J [.ref jh, .ref rh, .int x] H' Qx E0) ∧
          (∀ (H' : Hp) (Qx : VK), JS J j0 j1 r0 r1 l rl H H' → (∀ H2, Same H' H2 → Qx (.bl true) H2) → spRowIs J [.ref jh, .ref rh] H' Qx E0) := by
        rcases hx with e | e
        · rw [e]
          exact ⟨j0, r0, atI_nat (j := 0) rfl, atI_nat (j := 0) rfl, fun _ _ _ => deed0, fun _ _ => row0⟩
        · rw [e]
          exact ⟨j1, r1, atI_nat (j := 1) rfl, atI_nat (j := 1) rfl, fun _ _ _ => deed1, fun _ _ => row1⟩
      walk_at "go"
      refine g_ix (sq_of S.hl) aj ?_
      walk_at "go"
      refine g_ix (sq_of S.hrl) ar ?_
      walk_at "go"
      refine g_ix (S.same.seq hA) (at_intZ (by omega) (by omega)) ?_
      walk_at "go"
      refine dh _ _ _ S fun H2 S2 => ?_
      walk_at "go"
      refine g_ix (sq_of S2.hl) (atI_nat (j := 0) rfl) ?_
      walk_at "go"
      refine g_ix (sq_of S2.hrl) (atI_nat (j := 0) rfl) ?_
      walk_at "go"
      refine row0 S2 fun H3 s3 => ?_
      have S3 := S2.mono s3
      walk_at "go"
      refine g_ix (sq_of S3.hl) (atI_nat (j := 1) rfl) ?_
      walk_at "go"
      refine g_ix (sq_of S3.hrl) (atI_nat (j := 1) rfl) ?_
      walk_at "go"
      refine row1 S3 fun H4 s4 => ?_
      have S4 := S3.mono s4
      walk_at "go"
      refine ⟨small_le (by show 2 ≤ 100000; decide), fun t nt => ?_⟩
      have S5 := S4.mono (same_new (o := .tup [.int 0, .int 1]) nt)
      refine ⟨t, _, rfl, .inr (sqt_of upd_same), rfl, rfl, ?_⟩
      generalize upd H4 t (.tup [.int 0, .int 1]) = H5 at S5 ⊢
      rw [if_neg Bool.false_ne_true]
      walk_at "go"
      refine g_ite (fun _ => ?_) (fun _ => ?_)
      · walk_at "go"
        refine g_ix (sq_of S5.hl) aj ?_
        walk_at "go"
        refine g_ix (sq_of S5.hrl) ar ?_
        walk_at "go"
        refine vh _ _ S5 fun H6 s6 => ?_
        walk_at "go"
        exact ⟨_, _, rfl, S5.mono s6⟩
      · walk_at "go"
        exact ⟨_, _, rfl, S5⟩
    · rintro σ' H' ⟨x, y, rfl, S⟩
      walk_at "go"
      refine g_ix (sq_of S.hl) (atI_nat (j := 0) rfl) ?_
      walk_at "go"
      refine g_ix (sq_of S.hrl) (atI_nat (j := 0) rfl) ?_
      walk_at "go"
      refine row0 S fun H3 s3 => ?_
      have S3 := S.mono s3
      walk_at "go"
      refine g_ix (sq_of S3.hl) (atI_nat (j := 1) rfl) ?_
      walk_at "go"
      refine g_ix (sq_of S3.hrl) (atI_nat (j := 1) rfl) ?_
      walk_at "go"
      refine row1 S3 fun H4 s4 => ?_
      have S4 := S3.mono s4
      walk_at "go"
      refine g_ix (sq_of S4.hl) (atI_nat (j := 0) rfl) ?_
      walk_at "go"
      refine g_ix (sq_of S4.hrl) (atI_nat (j := 0) rfl) ?_
      walk_at "go"
      exact row0 S4 fun H5 s5 => q _
    · intro Q' q'
      walk_at "go"
      exact q'
end
end Cj

namespace Cj
open PySem PySem.Spec PyProof.Rows L2
theorem all_mk {l : PySem.W.OpenLaw} {w : World} {K : PySem.W.Frag} {h : Heap} {mg : Str → Option Value} {fa f0 f1 f2 f3 f4 f5 f6 f7 f8 f9 f10 f11 f12 f13 f14 f15 f16 f17 f18 f19 f20 xR xW xA xG xT xC xJ h0 h1 h2 h3 h4 : Addr} (X : K.In h) (G : h.Ns mainGlobals mg) (hfa : mg "law" = some (.ref fa))
    {od0 an0 od1 an1 od2 an2 od3 an3 od4 an4 od5 an5 od6 an6 od7 an7 od8 an8 od9 an9 od10 an10 od11 an11 od12 an12 od13 an13 od14 an14 od15 an15 od16 an16 od17 an17 od18 an18 od19 an19 od20 an20 : Option Addr} {sl0 sl1 sl2 sl3 sl4 sl5 sl6 sl7 sl8 sl9 sl10 sl11 sl12 sl13 sl14 sl15 sl16 sl17 sl18 sl19 sl20 : Array (Option Value)} {oc0 kV0 dc0 pm0 cd0 ct0 oc1 kV1 dc1 pm1 cd1 ct1 oc2 kV2 dc2 pm2 cd2 ct2 oc3 kV3 dc3 pm3 cd3 ct3 oc4 kV4 dc4 pm4 cd4 ct4 oc5 kV5 dc5 pm5 cd5 ct5 oc6 kV6 dc6 pm6 cd6 ct6 oc7 kV7 dc7 pm7 cd7 ct7 oc8 kV8 dc8 pm8 cd8 ct8 oc9 kV9 dc9 pm9 cd9 ct9 oc10 kV10 dc10 pm10 cd10 ct10 oc11 kV11 dc11 pm11 cd11 ct11 oc12 kV12 dc12 pm12 cd12 ct12 oc13 kV13 dc13 pm13 cd13 ct13 oc14 kV14 dc14 pm14 cd14 ct14 oc15 kV15 dc15 pm15 cd15 ct15 oc16 kV16 dc16 pm16 cd16 ct16 oc17 kV17 dc17 pm17 cd17 ct17 oc18 kV18 dc18 pm18 cd18 ct18 oc19 kV19 dc19 pm19 cd19 ct19 oc20 kV20 dc20 pm20 cd20 ct20 : Value} {t_MOST t_GREATEST t_MOST_AMOUNT : Tok}
    {mod0 man0 mod1 man1 mod2 man2 mod3 man3 mod4 man4 : Option Addr} {msl0 msl1 msl2 msl3 msl4 : Array (Option Value)} {moc0 mkV0 mdc0 mpm0 mcd0 mct0 moc1 mkV1 mdc1 mpm1 mcd1 mct1 moc2 mkV2 mdc2 mpm2 mcd2 mct2 moc3 mkV3 mdc3 mpm3 mcd3 mct3 moc4 mkV4 mdc4 mpm4 mcd4 mct4 : Value}
    (a0 : PySem.W.nsIn K mainGlobals "good_row" = some (some (.ref f0)))
    (l0 : K.lookup f0 = some ⟨oc0, od0, .func (PySem.W.fnOf "good_row" "good_row" (defArgs s_good_row) (defBody s_good_row) (defScope s_good_row) .none kV0 dc0 pm0 an0 cd0 ct0), sl0⟩)
    (c0 : PySem.W.codeIn K cd0 "good_row" = true)
    (k0 : PySem.W.keepIn K (.ref f0) = true)
    (a1 : PySem.W.nsIn K mainGlobals "worth" = some (some (.ref f1)))
    (l1 : K.lookup f1 = some ⟨oc1, od1, .func (PySem.W.fnOf "worth" "worth" (defArgs s_worth) (defBody s_worth) (defScope s_worth) .none kV1 dc1 pm1 an1 cd1 ct1), sl1⟩)
    (c1 : PySem.W.codeIn K cd1 "worth" = true)
    (k1 : PySem.W.keepIn K (.ref f1) = true)
    (a2 : PySem.W.nsIn K mainGlobals "pieces" = some (some (.ref f2)))
    (l2 : K.lookup f2 = some ⟨oc2, od2, .func (PySem.W.fnOf "pieces" "pieces" (defArgs s_pieces) (defBody s_pieces) (defScope s_pieces) .none kV2 dc2 pm2 an2 cd2 ct2), sl2⟩)
    (c2 : PySem.W.codeIn K cd2 "pieces" = true)
    (k2 : PySem.W.keepIn K (.ref f2) = true)
    (a3 : PySem.W.nsIn K mainGlobals "need_amount" = some (some (.ref f3)))
    (l3 : K.lookup f3 = some ⟨oc3, od3, .func (PySem.W.fnOf "need_amount" "need_amount" (defArgs s_need_amount) (defBody s_need_amount) (defScope s_need_amount) .none kV3 dc3 pm3 an3 cd3 ct3), sl3⟩)
    (c3 : PySem.W.codeIn K cd3 "need_amount" = true)
    (k3 : PySem.W.keepIn K (.ref f3) = true)
    (a4 : PySem.W.nsIn K mainGlobals "first_way" = some (some (.ref f4)))
    (l4 : K.lookup f4 = some ⟨oc4, od4, .func (PySem.W.fnOf "first_way" "first_way" (defArgs s_first_way) (defBody s_first_way) (defScope s_first_way) .none kV4 dc4 pm4 an4 cd4 ct4), sl4⟩)
    (c4 : PySem.W.codeIn K cd4 "first_way" = true)
    (k4 : PySem.W.keepIn K (.ref f4) = true)
    (a5 : PySem.W.nsIn K mainGlobals "trial" = some (some (.ref f5)))
    (l5 : K.lookup f5 = some ⟨oc5, od5, .func (PySem.W.fnOf "trial" "trial" (defArgs s_trial) (defBody s_trial) (defScope s_trial) .none kV5 dc5 pm5 an5 cd5 ct5), sl5⟩)
    (c5 : PySem.W.codeIn K cd5 "trial" = true)
    (k5 : PySem.W.keepIn K (.ref f5) = true)
    (a6 : PySem.W.nsIn K mainGlobals "trials" = some (some (.ref f6)))
    (l6 : K.lookup f6 = some ⟨oc6, od6, .func (PySem.W.fnOf "trials" "trials" (defArgs s_trials) (defBody s_trials) (defScope s_trials) .none kV6 dc6 pm6 an6 cd6 ct6), sl6⟩)
    (c6 : PySem.W.codeIn K cd6 "trials" = true)
    (k6 : PySem.W.keepIn K (.ref f6) = true)
    (a7 : PySem.W.nsIn K mainGlobals "is_better" = some (some (.ref f7)))
    (l7 : K.lookup f7 = some ⟨oc7, od7, .func (PySem.W.fnOf "is_better" "is_better" (defArgs s_is_better) (defBody s_is_better) (defScope s_is_better) .none kV7 dc7 pm7 an7 cd7 ct7), sl7⟩)
    (c7 : PySem.W.codeIn K cd7 "is_better" = true)
    (k7 : PySem.W.keepIn K (.ref f7) = true)
    (a8 : PySem.W.nsIn K mainGlobals "rank" = some (some (.ref f8)))
    (l8 : K.lookup f8 = some ⟨oc8, od8, .func (PySem.W.fnOf "rank" "rank" (defArgs s_rank) (defBody s_rank) (defScope s_rank) .none kV8 dc8 pm8 an8 cd8 ct8), sl8⟩)
    (c8 : PySem.W.codeIn K cd8 "rank" = true)
    (k8 : PySem.W.keepIn K (.ref f8) = true)
    (a9 : PySem.W.nsIn K mainGlobals "judged" = some (some (.ref f9)))
    (l9 : K.lookup f9 = some ⟨oc9, od9, .func (PySem.W.fnOf "judged" "judged" (defArgs s_judged) (defBody s_judged) (defScope s_judged) .none kV9 dc9 pm9 an9 cd9 ct9), sl9⟩)
    (c9 : PySem.W.codeIn K cd9 "judged" = true)
    (k9 : PySem.W.keepIn K (.ref f9) = true)
    (a10 : PySem.W.nsIn K mainGlobals "_law_whole" = some (some (.ref f10)))
    (l10 : K.lookup f10 = some ⟨oc10, od10, .func (PySem.W.fnOf "_law_whole" "_law_whole" (defArgs s__law_whole) (defBody s__law_whole) (defScope s__law_whole) .none kV10 dc10 pm10 an10 cd10 ct10), sl10⟩)
    (c10 : PySem.W.codeIn K cd10 "_law_whole" = true)
    (k10 : PySem.W.keepIn K (.ref f10) = true)
    (a11 : PySem.W.nsIn K mainGlobals "_law_cell_at" = some (some (.ref f11)))
    (l11 : K.lookup f11 = some ⟨oc11, od11, .func (PySem.W.fnOf "_law_cell_at" "_law_cell_at" (defArgs s__law_cell_at) (defBody s__law_cell_at) (defScope s__law_cell_at) .none kV11 dc11 pm11 an11 cd11 ct11), sl11⟩)
    (c11 : PySem.W.codeIn K cd11 "_law_cell_at" = true)
    (k11 : PySem.W.keepIn K (.ref f11) = true)
    (a12 : PySem.W.nsIn K mainGlobals "_law_coin_by" = some (some (.ref f12)))
    (l12 : K.lookup f12 = some ⟨oc12, od12, .func (PySem.W.fnOf "_law_coin_by" "_law_coin_by" (defArgs s__law_coin_by) (defBody s__law_coin_by) (defScope s__law_coin_by) .none kV12 dc12 pm12 an12 cd12 ct12), sl12⟩)
    (c12 : PySem.W.codeIn K cd12 "_law_coin_by" = true)
    (k12 : PySem.W.keepIn K (.ref f12) = true)
    (a13 : PySem.W.nsIn K mainGlobals "_law_put" = some (some (.ref f13)))
    (l13 : K.lookup f13 = some ⟨oc13, od13, .func (PySem.W.fnOf "_law_put" "_law_put" (defArgs s__law_put) (defBody s__law_put) (defScope s__law_put) .none kV13 dc13 pm13 an13 cd13 ct13), sl13⟩)
    (c13 : PySem.W.codeIn K cd13 "_law_put" = true)
    (k13 : PySem.W.keepIn K (.ref f13) = true)
    (a14 : PySem.W.nsIn K mainGlobals "_law_kinds" = some (some (.ref f14)))
    (l14 : K.lookup f14 = some ⟨oc14, od14, .func (PySem.W.fnOf "_law_kinds" "_law_kinds" (defArgs s__law_kinds) (defBody s__law_kinds) (defScope s__law_kinds) .none kV14 dc14 pm14 an14 cd14 ct14), sl14⟩)
    (c14 : PySem.W.codeIn K cd14 "_law_kinds" = true)
    (k14 : PySem.W.keepIn K (.ref f14) = true)
    (a15 : PySem.W.nsIn K mainGlobals "_law_put_refused" = some (some (.ref f15)))
    (l15 : K.lookup f15 = some ⟨oc15, od15, .func (PySem.W.fnOf "_law_put_refused" "_law_put_refused" (defArgs s__law_put_refused) (defBody s__law_put_refused) (defScope s__law_put_refused) .none kV15 dc15 pm15 an15 cd15 ct15), sl15⟩)
    (c15 : PySem.W.codeIn K cd15 "_law_put_refused" = true)
    (k15 : PySem.W.keepIn K (.ref f15) = true)
    (a16 : PySem.W.nsIn K mainGlobals "_law_off_refused" = some (some (.ref f16)))
    (l16 : K.lookup f16 = some ⟨oc16, od16, .func (PySem.W.fnOf "_law_off_refused" "_law_off_refused" (defArgs s__law_off_refused) (defBody s__law_off_refused) (defScope s__law_off_refused) .none kV16 dc16 pm16 an16 cd16 ct16), sl16⟩)
    (c16 : PySem.W.codeIn K cd16 "_law_off_refused" = true)
    (k16 : PySem.W.keepIn K (.ref f16) = true)
    (a17 : PySem.W.nsIn K mainGlobals "_law_deed" = some (some (.ref f17)))
    (l17 : K.lookup f17 = some ⟨oc17, od17, .func (PySem.W.fnOf "_law_deed" "_law_deed" (defArgs s__law_deed) (defBody s__law_deed) (defScope s__law_deed) .none kV17 dc17 pm17 an17 cd17 ct17), sl17⟩)
    (c17 : PySem.W.codeIn K cd17 "_law_deed" = true)
    (k17 : PySem.W.keepIn K (.ref f17) = true)
    (a18 : PySem.W.nsIn K mainGlobals "_law_row_is" = some (some (.ref f18)))
    (l18 : K.lookup f18 = some ⟨oc18, od18, .func (PySem.W.fnOf "_law_row_is" "_law_row_is" (defArgs s__law_row_is) (defBody s__law_row_is) (defScope s__law_row_is) .none kV18 dc18 pm18 an18 cd18 ct18), sl18⟩)
    (c18 : PySem.W.codeIn K cd18 "_law_row_is" = true)
    (k18 : PySem.W.keepIn K (.ref f18) = true)
    (a19 : PySem.W.nsIn K mainGlobals "_law_verdict_is" = some (some (.ref f19)))
    (l19 : K.lookup f19 = some ⟨oc19, od19, .func (PySem.W.fnOf "_law_verdict_is" "_law_verdict_is" (defArgs s__law_verdict_is) (defBody s__law_verdict_is) (defScope s__law_verdict_is) .none kV19 dc19 pm19 an19 cd19 ct19), sl19⟩)
    (c19 : PySem.W.codeIn K cd19 "_law_verdict_is" = true)
    (k19 : PySem.W.keepIn K (.ref f19) = true)
    (a20 : PySem.W.nsIn K mainGlobals "law" = some (some (.ref f20)))
    (l20 : K.lookup f20 = some ⟨oc20, od20, .func (PySem.W.fnOf "law" "law" (defArgs s_law) (defBody s_law) (defScope s_law) .none kV20 dc20 pm20 an20 cd20 ct20), sl20⟩)
    (c20 : PySem.W.codeIn K cd20 "law" = true)
    (k20 : PySem.W.keepIn K (.ref f20) = true)
    (e_MOST : PySem.W.nsIn K mainGlobals "MOST" = some (some (.int 12 t_MOST)))
    (e_GREATEST : PySem.W.nsIn K mainGlobals "GREATEST" = some (some (.int 1000000000000000000000000000000000000000000000000000000000000 t_GREATEST)))
    (e_MOST_AMOUNT : PySem.W.nsIn K mainGlobals "MOST_AMOUNT" = some (some (.int 100000000000000000000000000000000000000000000000000000000000000000000000000000000 t_MOST_AMOUNT)))
    (z_len : PySem.W.nsIn K mainGlobals "len" = some none)
    (z_range : PySem.W.nsIn K mainGlobals "range" = some none)
    (z_list : PySem.W.nsIn K mainGlobals "list" = some none)
    (z_sum : PySem.W.nsIn K mainGlobals "sum" = some none)
    (z_min : PySem.W.nsIn K mainGlobals "min" = some none)
    (z_max : PySem.W.nsIn K mainGlobals "max" = some none)
    (z_isinstance : PySem.W.nsIn K mainGlobals "isinstance" = some none)
    (z_str : PySem.W.nsIn K mainGlobals "str" = some none)
    (z_int : PySem.W.nsIn K mainGlobals "int" = some none)
    (z_bool : PySem.W.nsIn K mainGlobals "bool" = some none)
    (z_tuple : PySem.W.nsIn K mainGlobals "tuple" = some none)
    (z_ValueError : PySem.W.nsIn K mainGlobals "ValueError" = some none)
    (n_NoRow : PySem.W.nsIn K mainGlobals "NoRow" = some (some (.ref xR)))
    (n_NoWay : PySem.W.nsIn K mainGlobals "NoWay" = some (some (.ref xW)))
    (n_NoAmount : PySem.W.nsIn K mainGlobals "NoAmount" = some (some (.ref xA)))
    (n_TooGreat : PySem.W.nsIn K mainGlobals "TooGreat" = some (some (.ref xG)))
    (n_NoText : PySem.W.nsIn K mainGlobals "NoText" = some (some (.ref xT)))
    (n_CoinError : PySem.W.nsIn K mainGlobals "CoinError" = some (some (.ref xC)))
    (e_hg : PySem.W.findIn K (.ref xR) "__getattribute__" = some (some (.builtin "BaseException.__getattribute__")))
    (e_hk : PySem.W.findIn K (.ref xR) "__getattr__" = some none)
    (e_hs : PySem.W.subIn K (.ref xR) (.type "BaseException") = some true)
    (e_hd : PySem.W.hasDictIn K xR = true)
    (e_ha : PySem.W.findIn K (.ref xR) "__class__" = some (some (.builtin "object.__class__")))
    (e_hn : PySem.W.specialIn K (.builtin "object.__class__") "__get__" = some (some (.builtin "getset_descriptor.__get__")))
    (e_ht : PySem.W.takesIn K (.builtin "object.__class__") = some true)
    (e_hm : PySem.W.mroIn K xR (.type "object") = some true)
    (e_q1 : PySem.W.subIn K (.ref xR) (.ref xW) = some false)
    (e_x1 : PySem.W.hasDictIn K xW = true)
    (e_t1 : PySem.W.typeIn K (.ref xW) = some (.type "type"))
    (e_d1 : (xR == xW) = false)
    (e_q2 : PySem.W.subIn K (.ref xR) (.ref xA) = some false)
    (e_x2 : PySem.W.hasDictIn K xA = true)
    (e_t2 : PySem.W.typeIn K (.ref xA) = some (.type "type"))
    (e_d2 : (xR == xA) = false)
    (e_q3 : PySem.W.subIn K (.ref xR) (.ref xG) = some false)
    (e_x3 : PySem.W.hasDictIn K xG = true)
    (e_t3 : PySem.W.typeIn K (.ref xG) = some (.type "type"))
    (e_d3 : (xR == xG) = false)
    (e_q4 : PySem.W.subIn K (.ref xR) (.ref xT) = some false)
    (e_x4 : PySem.W.hasDictIn K xT = true)
    (e_t4 : PySem.W.typeIn K (.ref xT) = some (.type "type"))
    (e_d4 : (xR == xT) = false)
    (e_qV : PySem.W.subIn K (.ref xR) (.type "ValueError") = some true)
    (e_DD : PySem.W.subIn K (.ref xR) (.ref xR) = some true)
    (e_DC : PySem.W.subIn K (.ref xR) (.ref xC) = some true)
    (e_sC : PySem.W.subIn K (.ref xC) (.type "BaseException") = some true)
    (e_dC : PySem.W.hasDictIn K xC = true)
    (e_tC : PySem.W.typeIn K (.ref xC) = some (.type "type"))
    (e_ki : PySem.W.keepIn K (.ref xR) = true)
    (e_rt : PySem.W.typeIn K (.ref xR) = some (.type "type"))
    (e_ex : PySem.W.excIn K xR [.type "ValueError", .type "Exception", .type "BaseException", .type "object"] "ValueError.__new__" = true)
    (j_a : PySem.W.nsIn K mainGlobals "Judge" = some (some (.ref xJ)))
    (j_pg : PySem.W.plainGet K xJ Str.empty = true)
    (j_hd : PySem.W.hasDictIn K xJ = true)
    (j_po : PySem.W.plainOver K xJ = true)
    (j_sa : PySem.W.findIn K (.ref xJ) "__setattr__" = some (some (.builtin "object.__setattr__")))
    (j_mk : PySem.W.makesIn K xJ = true)
    (j_kc : PySem.W.keepIn K (.ref xJ) = true)
    (j_nk : PySem.W.findIn K (.ref xJ) "kept" = some none)
    (m_a0 : PySem.W.findIn K (.ref xJ) "__init__" = some (some (.ref h0)))
    (m_i0 : PySem.W.isFn K (.ref h0) = true)
    (m_l0 : K.lookup h0 = some ⟨moc0, mod0, .func (PySem.W.fnOf "__init__" "Judge.__init__" (defArgs s_Judge___init__) (defBody s_Judge___init__) (defScope s_Judge___init__) .none mkV0 mdc0 mpm0 man0 mcd0 mct0), msl0⟩)
    (m_c0 : PySem.W.codeIn K mcd0 "Judge.__init__" = true)
    (m_k0 : PySem.W.keepIn K (.ref h0) = true)
    (m_a1 : PySem.W.findIn K (.ref xJ) "row" = some (some (.ref h1)))
    (m_i1 : PySem.W.isFn K (.ref h1) = true)
    (m_l1 : K.lookup h1 = some ⟨moc1, mod1, .func (PySem.W.fnOf "row" "Judge.row" (defArgs s_Judge_row) (defBody s_Judge_row) (defScope s_Judge_row) .none mkV1 mdc1 mpm1 man1 mcd1 mct1), msl1⟩)
    (m_c1 : PySem.W.codeIn K mcd1 "Judge.row" = true)
    (m_k1 : PySem.W.keepIn K (.ref h1) = true)
    (m_a2 : PySem.W.findIn K (.ref xJ) "more" = some (some (.ref h2)))
    (m_i2 : PySem.W.isFn K (.ref h2) = true)
    (m_l2 : K.lookup h2 = some ⟨moc2, mod2, .func (PySem.W.fnOf "more" "Judge.more" (defArgs s_Judge_more) (defBody s_Judge_more) (defScope s_Judge_more) .none mkV2 mdc2 mpm2 man2 mcd2 mct2), msl2⟩)
    (m_c2 : PySem.W.codeIn K mcd2 "Judge.more" = true)
    (m_k2 : PySem.W.keepIn K (.ref h2) = true)
    (m_a3 : PySem.W.findIn K (.ref xJ) "fewer" = some (some (.ref h3)))
    (m_i3 : PySem.W.isFn K (.ref h3) = true)
    (m_l3 : K.lookup h3 = some ⟨moc3, mod3, .func (PySem.W.fnOf "fewer" "Judge.fewer" (defArgs s_Judge_fewer) (defBody s_Judge_fewer) (defScope s_Judge_fewer) .none mkV3 mdc3 mpm3 man3 mcd3 mct3), msl3⟩)
    (m_c3 : PySem.W.codeIn K mcd3 "Judge.fewer" = true)
    (m_k3 : PySem.W.keepIn K (.ref h3) = true)
    (m_a4 : PySem.W.findIn K (.ref xJ) "verdict" = some (some (.ref h4)))
    (m_i4 : PySem.W.isFn K (.ref h4) = true)
    (m_l4 : K.lookup h4 = some ⟨moc4, mod4, .func (PySem.W.fnOf "verdict" "Judge.verdict" (defArgs s_Judge_verdict) (defBody s_Judge_verdict) (defScope s_Judge_verdict) .none mkV4 mdc4 mpm4 man4 mcd4 mct4), msl4⟩)
    (m_c4 : PySem.W.codeIn K mcd4 "Judge.verdict" = true)
    (m_k4 : PySem.W.keepIn K (.ref h4) = true) :
    ∃ fd : FuncData, (∀ (s : Shared) (v : Value), BindsTo s fd ⟨[v], []⟩ [("_law_script", v)]) ∧ ∀ base : Heap, K.In base → base.Ns mainGlobals mg → FnOk l.prog w K mg base CX0 8 fa fd ["_law_script"] (spLaw K) := by
  have e := hfa.symm.trans (PySem.W.mg_of X G a20)
  cases e
  have T : Bn mg := ⟨PySem.W.mg_none_of X G z_len, PySem.W.mg_none_of X G z_range, PySem.W.mg_none_of X G z_list, PySem.W.mg_none_of X G z_sum, PySem.W.mg_none_of X G z_min, PySem.W.mg_none_of X G z_max, PySem.W.mg_none_of X G z_isinstance, PySem.W.mg_none_of X G z_str, PySem.W.mg_none_of X G z_int, PySem.W.mg_none_of X G z_bool, PySem.W.mg_none_of X G z_tuple, PySem.W.mg_none_of X G z_ValueError⟩
  have gc_MOST := PySem.W.mg_of X G e_MOST
  have gc_GREATEST := PySem.W.mg_of X G e_GREATEST
  have gc_MOST_AMOUNT := PySem.W.mg_of X G e_MOST_AMOUNT
  have D : ExD K mg xR xW xA xG xT xC xR "NoRow" true false false false false := ⟨⟨e_hg, e_hk, e_hs, e_hd, e_ha, e_hn, e_ht, e_hm⟩, PySem.W.mg_of X G n_NoRow, PySem.W.mg_of X G n_NoWay, PySem.W.mg_of X G n_NoAmount, PySem.W.mg_of X G n_TooGreat, PySem.W.mg_of X G n_NoText, PySem.W.mg_of X G n_CoinError, PySem.W.mg_of X G n_NoRow, kit_self, kit_other e_d1 e_x1 e_t1 e_q1, kit_other e_d2 e_x2 e_t2 e_q2, kit_other e_d3 e_x3 e_t3 e_q3, kit_other e_d4 e_x4 e_t4 e_q4, kit_type (by decide +kernel) e_qV, by decide, PySem.W.exm_ref e_hs e_hd e_rt e_DD, PySem.W.exm_ref e_sC e_dC e_tC e_DC, e_ki, e_hs, e_rt, e_ex⟩
  have c : JCls K xJ := ⟨⟨j_pg, j_hd, j_po, j_sa⟩, j_nk⟩
  have gk_Judge := PySem.W.mg_of X G j_a
  have M0 := fun_mk (st := s_Judge___init__) m_l0 m_c0 m_k0
  have B0 := M0.binds (ps := ["self"]) fun _ _ _ _ _ _ us hl => match us, hl with | [_], _ => rfl
  have M1 := fun_mk (st := s_Judge_row) m_l1 m_c1 m_k1
  have B1 := M1.binds (ps := ["self"]) fun _ _ _ _ _ _ us hl => match us, hl with | [_], _ => rfl
  have M2 := fun_mk (st := s_Judge_more) m_l2 m_c2 m_k2
  have B2 := M2.binds (ps := ["self", "coin"]) fun _ _ _ _ _ _ us hl => match us, hl with | [_, _], _ => rfl
  have M3 := fun_mk (st := s_Judge_fewer) m_l3 m_c3 m_k3
  have B3 := M3.binds (ps := ["self"]) fun _ _ _ _ _ _ us hl => match us, hl with | [_], _ => rfl
  have M4 := fun_mk (st := s_Judge_verdict) m_l4 m_c4 m_k4
  have B4 := M4.binds (ps := ["self"]) fun _ _ _ _ _ _ us hl => match us, hl with | [_], _ => rfl
  have mk_Judge : Mk K xJ h0 := ⟨j_mk, m_a0, m_i0, j_kc⟩
  have F0 := fun_mk (st := s_good_row) l0 c0 k0
  have F1 := fun_mk (st := s_worth) l1 c1 k1
  have F2 := fun_mk (st := s_pieces) l2 c2 k2
  have F3 := fun_mk (st := s_need_amount) l3 c3 k3
  have F4 := fun_mk (st := s_first_way) l4 c4 k4
  have F5 := fun_mk (st := s_trial) l5 c5 k5
  have F6 := fun_mk (st := s_trials) l6 c6 k6
  have F7 := fun_mk (st := s_is_better) l7 c7 k7
  have F8 := fun_mk (st := s_rank) l8 c8 k8
  have F9 := fun_mk (st := s_judged) l9 c9 k9
  have F10 := fun_mk (st := s__law_whole) l10 c10 k10
  have F11 := fun_mk (st := s__law_cell_at) l11 c11 k11
  have F12 := fun_mk (st := s__law_coin_by) l12 c12 k12
  have F13 := fun_mk (st := s__law_put) l13 c13 k13
  have F14 := fun_mk (st := s__law_kinds) l14 c14 k14
  have F15 := fun_mk (st := s__law_put_refused) l15 c15 k15
  have F16 := fun_mk (st := s__law_off_refused) l16 c16 k16
  have F17 := fun_mk (st := s__law_deed) l17 c17 k17
  have F18 := fun_mk (st := s__law_row_is) l18 c18 k18
  have F19 := fun_mk (st := s__law_verdict_is) l19 c19 k19
  have F20 := fun_mk (st := s_law) l20 c20 k20
  refine ⟨PySem.W.fnOf "law" "law" (defArgs s_law) (defBody s_law) (defScope s_law) .none kV20 dc20 pm20 an20 cd20 ct20, fun s v => .of_eq rfl, fun base _ _ => ?_⟩
  have r_good_row : CalR l.prog w K mg base 1 "good_row" ["coins"] (spGood K xR) := ⟨⟨f0, _, ok_good F0 T gc_MOST gc_GREATEST D, PySem.W.mg_of X G a0, k0, F0.binds (ps := ["coins"]) fun _ _ _ _ _ _ us hl => match us, hl with | [_], _ => rfl⟩⟩
  have c_worth : Cal l.prog w K mg base 1 "worth" ["coins", "way"] (spWorth K) := ⟨⟨f1, _, ok_worth F1 T, PySem.W.mg_of X G a1, k1, F1.binds (ps := ["coins", "way"]) fun _ _ _ _ _ _ us hl => match us, hl with | [_, _], _ => rfl⟩⟩
  have c_pieces : Cal l.prog w K mg base 1 "pieces" ["way"] (spPieces K) := ⟨⟨f2, _, ok_pieces F2 T, PySem.W.mg_of X G a2, k2, F2.binds (ps := ["way"]) fun _ _ _ _ _ _ us hl => match us, hl with | [_], _ => rfl⟩⟩
  have c_need_amount : Cal l.prog w K mg base 1 "need_amount" ["amount"] (spNeed) := ⟨⟨f3, _, ok_need F3 gc_MOST_AMOUNT, PySem.W.mg_of X G a3, k3, F3.binds (ps := ["amount"]) fun _ _ _ _ _ _ us hl => match us, hl with | [_], _ => rfl⟩⟩
  have c_first_way : Cal l.prog w K mg base 2 "first_way" ["coins", "amount"] (spFirst K) := ⟨⟨f4, _, ok_first F4 T c_need_amount, PySem.W.mg_of X G a4, k4, F4.binds (ps := ["coins", "amount"]) fun _ _ _ _ _ _ us hl => match us, hl with | [_, _], _ => rfl⟩⟩
  have c_trial : Cal l.prog w K mg base 3 "trial" ["coins", "high", "low"] (spTrial K) := ⟨⟨f5, _, ok_trial F5 T c_first_way, PySem.W.mg_of X G a5, k5, F5.binds (ps := ["coins", "high", "low"]) fun _ _ _ _ _ _ us hl => match us, hl with | [_, _, _], _ => rfl⟩⟩
  have c_trials : Cal l.prog w K mg base 4 "trials" ["coins"] (spTrials K) := ⟨⟨f6, _, ok_trials F6 T c_trial c_worth, PySem.W.mg_of X G a6, k6, F6.binds (ps := ["coins"]) fun _ _ _ _ _ _ us hl => match us, hl with | [_], _ => rfl⟩⟩
  have c_is_better : Cal l.prog w K mg base 3 "is_better" ["coins", "pair"] (spBetter K) := ⟨⟨f7, _, ok_better F7 T c_pieces c_first_way, PySem.W.mg_of X G a7, k7, F7.binds (ps := ["coins", "pair"]) fun _ _ _ _ _ _ us hl => match us, hl with | [_, _], _ => rfl⟩⟩
  have c_rank : Cal l.prog w K mg base 2 "rank" ["pair"] (spRank) := ⟨⟨f8, _, ok_rank F8 c_pieces, PySem.W.mg_of X G a8, k8, F8.binds (ps := ["pair"]) fun _ _ _ _ _ _ us hl => match us, hl with | [_], _ => rfl⟩⟩
  have c_judged : Cal l.prog w K mg base 5 "judged" ["coins"] (spJudged K) := ⟨⟨f9, _, ok_judged F9 c_trials c_is_better c_rank, PySem.W.mg_of X G a9, k9, F9.binds (ps := ["coins"]) fun _ _ _ _ _ _ us hl => match us, hl with | [_], _ => rfl⟩⟩
  have b_Judge := B0
  have c_Judge := ok_init (P := l.prog) (w := w) (mg := mg) (base := base) M0 c
  have m_row : CalM l.prog w K mg base CX0 1 xJ "row" ["self"] (spJRow K xJ) := ⟨⟨h1, _, ⟨m_a1, m_i1, m_k1⟩, ok_jrow M1 T c, B1⟩⟩
  have m_more : CalM l.prog w K mg base (L2.CX l.prog w) 2 xJ "more" ["self", "coin"] (spMore xJ xR) := ⟨⟨h2, _, ⟨m_a2, m_i2, m_k2⟩, ok_more M2 T c r_good_row, B2⟩⟩
  have m_fewer : CalM l.prog w K mg base (L2.CX l.prog w) 1 xJ "fewer" ["self"] (spFewer xJ xR) := ⟨⟨h3, _, ⟨m_a3, m_i3, m_k3⟩, ok_fewer M3 T c D, B3⟩⟩
  have m_verdict : CalM l.prog w K mg base CX0 6 xJ "verdict" ["self"] (spVerdict K xJ) := ⟨⟨h4, _, ⟨m_a4, m_i4, m_k4⟩, ok_verdict M4 T c c_judged, B4⟩⟩
  have c__law_whole : Cal l.prog w K mg base 1 "_law_whole" ["_law_found"] (spWhole) := ⟨⟨f10, _, ok_whole F10 T, PySem.W.mg_of X G a10, k10, F10.binds (ps := ["_law_found"]) fun _ _ _ _ _ _ us hl => match us, hl with | [_], _ => rfl⟩⟩
  have c__law_cell_at : Cal l.prog w K mg base 1 "_law_cell_at" ["_law_script", "_law_k"] (spCell K) := ⟨⟨f11, _, ok_cell F11 T, PySem.W.mg_of X G a11, k11, F11.binds (ps := ["_law_script", "_law_k"]) fun _ _ _ _ _ _ us hl => match us, hl with | [_, _], _ => rfl⟩⟩
  have c__law_coin_by : Cal l.prog w K mg base 1 "_law_coin_by" ["_law_last", "_law_cell"] (spCoin) := ⟨⟨f12, _, ok_coin F12 T, PySem.W.mg_of X G a12, k12, F12.binds (ps := ["_law_last", "_law_cell"]) fun _ _ _ _ _ _ us hl => match us, hl with | [_, _], _ => rfl⟩⟩
  have c__law_put : Cal l.prog w K mg base 3 "_law_put" ["_law_judge", "_law_coin"] (spPut xJ) := ⟨⟨f13, _, ok_put F13 T c D m_more, PySem.W.mg_of X G a13, k13, F13.binds (ps := ["_law_judge", "_law_coin"]) fun _ _ _ _ _ _ us hl => match us, hl with | [_, _], _ => rfl⟩⟩
  have c__law_kinds : CalP l.prog w K mg base 1 "_law_kinds" ["_law_e"] (spKinds xR) := ⟨⟨f14, _, ok_kinds F14 T D, PySem.W.mg_of X G a14, k14, F14.binds (ps := ["_law_e"]) fun _ _ _ _ _ _ us hl => match us, hl with | [_], _ => rfl, rfl⟩⟩
  have c__law_put_refused : Cal l.prog w K mg base 3 "_law_put_refused" ["_law_judge", "_law_coin"] (spPutR xJ) := ⟨⟨f15, _, ok_putR F15 T c D m_more c__law_kinds, PySem.W.mg_of X G a15, k15, F15.binds (ps := ["_law_judge", "_law_coin"]) fun _ _ _ _ _ _ us hl => match us, hl with | [_, _], _ => rfl⟩⟩
  have c__law_off_refused : Cal l.prog w K mg base 2 "_law_off_refused" ["_law_judge"] (spOff xJ) := ⟨⟨f16, _, ok_off F16 T c D m_fewer, PySem.W.mg_of X G a16, k16, F16.binds (ps := ["_law_judge"]) fun _ _ _ _ _ _ us hl => match us, hl with | [_], _ => rfl⟩⟩
  have c__law_deed : Cal l.prog w K mg base 4 "_law_deed" ["_law_judge", "_law_row", "_law_cell"] (spDeed xJ) := ⟨⟨f17, _, ok_deed F17 T c m_fewer c__law_off_refused c__law_whole c__law_coin_by c__law_put_refused c__law_put, PySem.W.mg_of X G a17, k17, F17.binds (ps := ["_law_judge", "_law_row", "_law_cell"]) fun _ _ _ _ _ _ us hl => match us, hl with | [_, _, _], _ => rfl⟩⟩
  have c__law_row_is : Cal l.prog w K mg base 2 "_law_row_is" ["_law_judge", "_law_row"] (spRowIs xJ) := ⟨⟨f18, _, ok_rowIs F18 T c m_row c__law_whole, PySem.W.mg_of X G a18, k18, F18.binds (ps := ["_law_judge", "_law_row"]) fun _ _ _ _ _ _ us hl => match us, hl with | [_, _], _ => rfl⟩⟩
  have c__law_verdict_is : Cal l.prog w K mg base 7 "_law_verdict_is" ["_law_judge", "_law_row"] (spRowIs xJ) := ⟨⟨f19, _, ok_verdIs F19 T c m_verdict c_judged, PySem.W.mg_of X G a19, k19, F19.binds (ps := ["_law_judge", "_law_row"]) fun _ _ _ _ _ _ us hl => match us, hl with | [_, _], _ => rfl⟩⟩
  exact ok_law F20 T c mk_Judge c_Judge b_Judge gk_Judge c__law_cell_at c__law_deed c__law_row_is c__law_verdict_is
end Cj
open PySem PySem.W PyProof.Rows
set_option maxRecDepth 100000 in
set_option maxHeartbeats 0 in
theorem PySem.Challenge.cw_coinjudge_k08_a_judge_through_deeds_holds : PySem.Challenge.rw_coinjudge_k08_a_judge_through_deeds.Holds := by
  w_on; o_law; k_head; (case hw => w_witness2)
  k_fill
  refine L2.walk_of (l := PySem.Challenge.rw_coinjudge_k08_a_judge_through_deeds) (n := 63) (k := 8) (x := "_law_script") (CX := fun _ => L2.CX0) (sp := fun w => Cj.spLaw _) rfl (by decide) rfl ⟨rfl, by decide, by decide⟩ (fun w h Y => PySem.W.kIn_of Y) ?F (fun _ _ a ns hl _ hS => ⟨a, ns, rfl, hS, hl, fun _ => rfl⟩) (fun _ _ _ _ _ h => h)
  case F =>
    intro w mg fa h KX G hmg
    refine' Cj.all_mk KX G hmg ?a0 ?l0 ?c0 ?k0 ?a1 ?l1 ?c1 ?k1 ?a2 ?l2 ?c2 ?k2 ?a3 ?l3 ?c3 ?k3 ?a4 ?l4 ?c4 ?k4 ?a5 ?l5 ?c5 ?k5 ?a6 ?l6 ?c6 ?k6 ?a7 ?l7 ?c7 ?k7 ?a8 ?l8 ?c8 ?k8 ?a9 ?l9 ?c9 ?k9 ?a10 ?l10 ?c10 ?k10 ?a11 ?l11 ?c11 ?k11 ?a12 ?l12 ?c12 ?k12 ?a13 ?l13 ?c13 ?k13 ?a14 ?l14 ?c14 ?k14 ?a15 ?l15 ?c15 ?k15 ?a16 ?l16 ?c16 ?k16 ?a17 ?l17 ?c17 ?k17 ?a18 ?l18 ?c18 ?k18 ?a19 ?l19 ?c19 ?k19 ?a20 ?l20 ?c20 ?k20 ?e_MOST ?e_GREATEST ?e_MOST_AMOUNT ?z_len ?z_range ?z_list ?z_sum ?z_min ?z_max ?z_isinstance ?z_str ?z_int ?z_bool ?z_tuple ?z_ValueError ?n_NoRow ?n_NoWay ?n_NoAmount ?n_TooGreat ?n_NoText ?n_CoinError ?e_hg ?e_hk ?e_hs ?e_hd ?e_ha ?e_hn ?e_ht ?e_hm ?e_q1 ?e_x1 ?e_t1 ?e_d1 ?e_q2 ?e_x2 ?e_t2 ?e_d2 ?e_q3 ?e_x3 ?e_t3 ?e_d3 ?e_q4 ?e_x4 ?e_t4 ?e_d4 ?e_qV ?e_DD ?e_DC ?e_sC ?e_dC ?e_tC ?e_ki ?e_rt ?e_ex ?j_a ?j_pg ?j_hd ?j_po ?j_sa ?j_mk ?j_kc ?j_nk ?m_a0 ?m_i0 ?m_l0 ?m_c0 ?m_k0 ?m_a1 ?m_i1 ?m_l1 ?m_c1 ?m_k1 ?m_a2 ?m_i2 ?m_l2 ?m_c2 ?m_k2 ?m_a3 ?m_i3 ?m_l3 ?m_c3 ?m_k3 ?m_a4 ?m_i4 ?m_l4 ?m_c4 ?m_k4
    (case a0 => k_is)
    (case l0 => k_is)
    (case c0 => k_is)
    (case k0 => k_is)
    (case a1 => k_is)
    (case l1 => k_is)
    (case c1 => k_is)
    (case k1 => k_is)
    (case a2 => k_is)
    (case l2 => k_is)
    (case c2 => k_is)
    (case k2 => k_is)
    (case a3 => k_is)
    (case l3 => k_is)
    (case c3 => k_is)
    (case k3 => k_is)
    (case a4 => k_is)
    (case l4 => k_is)
    (case c4 => k_is)
    (case k4 => k_is)
    (case a5 => k_is)
    (case l5 => k_is)
    (case c5 => k_is)
    (case k5 => k_is)
    (case a6 => k_is)
    (case l6 => k_is)
    (case c6 => k_is)
    (case k6 => k_is)
    (case a7 => k_is)
    (case l7 => k_is)
    (case c7 => k_is)
    (case k7 => k_is)
    (case a8 => k_is)
    (case l8 => k_is)
    (case c8 => k_is)
    (case k8 => k_is)
    (case a9 => k_is)
    (case l9 => k_is)
    (case c9 => k_is)
    (case k9 => k_is)
    (case a10 => k_is)
    (case l10 => k_is)
    (case c10 => k_is)
    (case k10 => k_is)
    (case a11 => k_is)
    (case l11 => k_is)
    (case c11 => k_is)
    (case k11 => k_is)
    (case a12 => k_is)
    (case l12 => k_is)
    (case c12 => k_is)
    (case k12 => k_is)
    (case a13 => k_is)
    (case l13 => k_is)
    (case c13 => k_is)
    (case k13 => k_is)
    (case a14 => k_is)
    (case l14 => k_is)
    (case c14 => k_is)
    (case k14 => k_is)
    (case a15 => k_is)
    (case l15 => k_is)
    (case c15 => k_is)
    (case k15 => k_is)
    (case a16 => k_is)
    (case l16 => k_is)
    (case c16 => k_is)
    (case k16 => k_is)
    (case a17 => k_is)
    (case l17 => k_is)
    (case c17 => k_is)
    (case k17 => k_is)
    (case a18 => k_is)
    (case l18 => k_is)
    (case c18 => k_is)
    (case k18 => k_is)
    (case a19 => k_is)
    (case l19 => k_is)
    (case c19 => k_is)
    (case k19 => k_is)
    (case a20 => k_is)
    (case l20 => k_is)
    (case c20 => k_is)
    (case k20 => k_is)
    (case e_MOST => first | k_is | k_exc | decide +kernel)
    (case e_GREATEST => first | k_is | k_exc | decide +kernel)
    (case e_MOST_AMOUNT => first | k_is | k_exc | decide +kernel)
    (case z_len => k_is)
    (case z_range => k_is)
    (case z_list => k_is)
    (case z_sum => k_is)
    (case z_min => k_is)
    (case z_max => k_is)
    (case z_isinstance => k_is)
    (case z_str => k_is)
    (case z_int => k_is)
    (case z_bool => k_is)
    (case z_tuple => k_is)
    (case z_ValueError => k_is)
    (case n_NoRow => k_is)
    (case n_NoWay => k_is)
    (case n_NoAmount => k_is)
    (case n_TooGreat => k_is)
    (case n_NoText => k_is)
    (case n_CoinError => k_is)
    (case e_hg => first | k_is | k_exc | decide +kernel)
    (case e_hk => first | k_is | k_exc | decide +kernel)
    (case e_hs => first | k_is | k_exc | decide +kernel)
    (case e_hd => first | k_is | k_exc | decide +kernel)
    (case e_ha => first | k_is | k_exc | decide +kernel)
    (case e_hn => first | k_is | k_exc | decide +kernel)
    (case e_ht => first | k_is | k_exc | decide +kernel)
    (case e_hm => first | k_is | k_exc | decide +kernel)
    (case e_q1 => first | k_is | k_exc | decide +kernel)
    (case e_x1 => first | k_is | k_exc | decide +kernel)
    (case e_t1 => first | k_is | k_exc | decide +kernel)
    (case e_d1 => first | k_is | k_exc | decide +kernel)
    (case e_q2 => first | k_is | k_exc | decide +kernel)
    (case e_x2 => first | k_is | k_exc | decide +kernel)
    (case e_t2 => first | k_is | k_exc | decide +kernel)
    (case e_d2 => first | k_is | k_exc | decide +kernel)
    (case e_q3 => first | k_is | k_exc | decide +kernel)
    (case e_x3 => first | k_is | k_exc | decide +kernel)
    (case e_t3 => first | k_is | k_exc | decide +kernel)
    (case e_d3 => first | k_is | k_exc | decide +kernel)
    (case e_q4 => first | k_is | k_exc | decide +kernel)
    (case e_x4 => first | k_is | k_exc | decide +kernel)
    (case e_t4 => first | k_is | k_exc | decide +kernel)
    (case e_d4 => first | k_is | k_exc | decide +kernel)
    (case e_qV => first | k_is | k_exc | decide +kernel)
    (case e_DD => first | k_is | k_exc | decide +kernel)
    (case e_DC => first | k_is | k_exc | decide +kernel)
    (case e_sC => first | k_is | k_exc | decide +kernel)
    (case e_dC => first | k_is | k_exc | decide +kernel)
    (case e_tC => first | k_is | k_exc | decide +kernel)
    (case e_ki => first | k_is | k_exc | decide +kernel)
    (case e_rt => first | k_is | k_exc | decide +kernel)
    (case e_ex => first | k_is | k_exc | decide +kernel)
    (case j_a => k_is)
    (case j_pg => k_is)
    (case j_hd => k_is)
    (case j_po => k_is)
    (case j_sa => k_is)
    (case j_mk => k_is)
    (case j_kc => k_is)
    (case j_nk => k_is)
    (case m_a0 => k_is)
    (case m_i0 => k_is)
    (case m_l0 => k_is)
    (case m_c0 => k_is)
    (case m_k0 => k_is)
    (case m_a1 => k_is)
    (case m_i1 => k_is)
    (case m_l1 => k_is)
    (case m_c1 => k_is)
    (case m_k1 => k_is)
    (case m_a2 => k_is)
    (case m_i2 => k_is)
    (case m_l2 => k_is)
    (case m_c2 => k_is)
    (case m_k2 => k_is)
    (case m_a3 => k_is)
    (case m_i3 => k_is)
    (case m_l3 => k_is)
    (case m_c3 => k_is)
    (case m_k3 => k_is)
    (case m_a4 => k_is)
    (case m_i4 => k_is)
    (case m_l4 => k_is)
    (case m_c4 => k_is)
    (case m_k4 => k_is)
#print axioms PySem.Challenge.cw_coinjudge_k08_a_judge_through_deeds_holds

