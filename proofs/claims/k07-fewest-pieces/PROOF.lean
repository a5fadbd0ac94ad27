import PyProof.Rows.All
import Wide.All
import OpenK.AllK
import Wide.FinOn
import HandS.ForMost
import HandS.Wide
import HandS.IsInst
import HandS.ForExc
import HandS.Evl
import PyProof.EqAt
import PyProof.EqKinds
import HandS.HotCalls
import HandS.EndBits
import HandS.ExcIs
import HandS.TryOnly
import HandS.TryMany
import HandS.SetFor
import HandS.WordsExc
import PySem.Challenge.RW_coinjudge_k07_fewest_pieces
set_option Elab.async false
set_option linter.all false
set_option maxRecDepth 100000
set_option maxHeartbeats 4000000
/-! # Words for readings: run them from the left -/
namespace Cj
open PySem PySem.Spec PyProof.Rows L2
section
variable {K : PySem.W.Frag} {σ : L2.St} {H : Hp} {ta tb te : TE} {t u : TT} {Q : VK} {D : Ends} {tu tz tw : TS} {QB : Bool → Hp → Prop} {g : TG}
theorem g_start {ts : TS} {N : List Str} {vs : List V} (σ : L2.St) (h : L2.start N vs = σ) (q : ts D σ H) : ts D (L2.start N vs) H := by
  rw [h]; exact q
theorem g_var {i : Nat} {v : V} (h : σ[i]? = some (some v)) (q : Q v H) : tVar i σ H Q := ⟨v, h, q⟩
theorem g_c {v : V} (q : Q v H) : tC v σ H Q := q
theorem g_op {r : R2} (h : ta σ H fun x H1 => tb σ H1 fun y H2 => r x y H2 Q) : tOp r ta tb σ H Q := h
theorem g_un {r : V → Hp → VK → Prop} (h : ta σ H fun x H1 => r x H1 Q) : tUn r ta σ H Q := h
theorem g_I0 {f : Int → Int → V} {i j : Int} (q : Q (f i j) H) : rI0 f (.int i) (.int j) H Q := ⟨i, j, rfl, rfl, q⟩
theorem g_I {C : Int → Int → Prop} {f : Int → Int → V} {i j : Int} (c : C i j) (q : Q (f i j) H) : rI C f (.int i) (.int j) H Q := ⟨i, j, rfl, rfl, c, q⟩
theorem g_U {f : Int → V} {i : Int} (q : Q (f i) H) : rU f (.int i) H Q := ⟨i, rfl, q⟩
theorem g_eqI {i j : Int} (q : Q (.bl (decide (i = j))) H) : rEq (.int i) (.int j) H Q := ⟨rfl, by
  have e : decide (V.int i = V.int j) = decide (i = j) := by simp
  rw [e]; exact q⟩
theorem g_neI {i j : Int} (q : Q (.bl (!decide (i = j))) H) : rNe (.int i) (.int j) H Q := ⟨rfl, by
  have e : decide (V.int i = V.int j) = decide (i = j) := by simp
  rw [e]; exact q⟩
theorem g_ix {p : Addr} {xs : List V} {i : Int} {v : V} (h : SqL K H p xs) (ha : atI xs i = some v) (q : Q v H) : rIxL K (.ref p) (.int i) H Q := ⟨p, xs, i, v, rfl, rfl, h, ha, q⟩
theorem g_ixT {p : Addr} {xs : List V} {i : Int} {v : V} (h : SqT K H p xs) (ha : atI xs i = some v) (q : Q v H) : rIxT K (.ref p) (.int i) H Q := ⟨p, xs, i, v, rfl, rfl, h, ha, q⟩
theorem g_test {b : Bool} (q : QB b H) : (fun x H' => ∃ k, x = V.bl k ∧ QB k H') (V.bl b) H := ⟨b, rfl, q⟩
theorem g_tTest (h : te σ H fun x H' => ∃ k, x = V.bl k ∧ QB k H') : tTest te σ H QB := h
theorem g_tB (h : te σ H fun x H' => ∃ k, x = V.bl k ∧ QB k H') : tB te σ H QB := h
theorem g_bl {b : Bool} {P : Bool → Prop} (q : P b) : ∃ k, V.bl b = V.bl k ∧ P k := ⟨b, rfl, q⟩
theorem g_and (h : t σ H fun c H1 => if c = true then u σ H1 QB else QB false H1) : tAnd t u σ H QB := h
theorem g_or (h : t σ H fun c H1 => if c = true then QB true H1 else u σ H1 QB) : tOr t u σ H QB := h
theorem g_not (h : t σ H fun c H1 => QB (!c) H1) : tNot t σ H QB := h
theorem g_andV (h : ta σ H fun x H1 => ∃ c, x = .bl c ∧ if c = true then tb σ H1 Q else Q (.bl false) H1) : tAndV ta tb σ H Q := h
theorem g_orV (h : ta σ H fun x H1 => ∃ c, x = .bl c ∧ if c = true then Q (.bl true) H1 else tb σ H1 Q) : tOrV ta tb σ H Q := h
theorem g_notV (h : ta σ H fun x H1 => ∃ c, x = .bl c ∧ Q (.bl (!c)) H1) : tNotV ta σ H Q := h
/-! arguments -/
variable {QA : List V → Hp → Prop} {tA : TA}
theorem g_nil (q : QA [] H) : tNil σ H QA := q
theorem g_cons (h : ta σ H fun x H1 => tA σ H1 fun xs H2 => QA (x :: xs) H2) : tCons ta tA σ H QA := h
theorem g_cb {r : List V → Hp → VK → Prop} (h : tA σ H fun vs H1 => r vs H1 Q) : tCB r tA σ H Q := h
theorem g_call {sp : Sp} {dvs : List V} {E : XK} (h : tA σ H fun vs H1 => sp (vs ++ dvs) H1 Q E) : tCall sp dvs E tA σ H Q := h
theorem g_bm {T : String} {r : V → List V → Hp → VK → Prop} (h : ta σ H fun x H1 => tyV K T x H1 ∧ tA σ H1 fun xs H2 => r x xs H2 Q) : tBM K T r ta tA σ H Q := h
theorem g_bm0 {T : String} {r : V → List V → Hp → VK → Prop} (h : ta σ H fun x H1 => tyV K T x H1 ∧ r x [] H1 Q) : tBM0 K T r ta σ H Q := h
theorem g_tup (h : tA σ H fun xs H1 => xs.length ≤ sizeLine ∧ ∀ p, H1 p = none → Q (.ref p) (upd H1 p (.tup xs))) : tTup tA σ H Q := h
theorem g_lst (h : tA σ H fun xs H1 => xs.length ≤ sizeLine ∧ ∀ p, H1 p = none → Q (.ref p) (upd H1 p (.lst xs))) : tLst tA σ H Q := h
/-! statements -/
theorem g_asg (h : te σ H fun v H1 => g v σ H1 D.nx) : tAsg te g D σ H := h
theorem g_name {i : Nat} {v : V} {R : L2.St → Hp → Prop} (q : R (σ.set i (some v)) H) : gName i v σ H R := q
theorem g_sub {to ti : TE} {ts : TSet} {v : V} {R : L2.St → Hp → Prop} (h : to σ H fun o H1 => ti σ H1 fun i H2 => ts o i v H2 fun H3 => R σ H3) : gSub to ti ts v σ H R := h
theorem g_seq (h : tu { D with nx := tz D } σ H) : tSeq tu tz D σ H := h
theorem g_drop (h : te σ H fun _ H1 => D.nx σ H1) : tDrop te D σ H := h
theorem g_ret (h : te σ H D.rt) : tRet te D σ H := h
theorem g_retN (h : D.rt .non H) : tRetN D σ H := h
theorem g_if (h : t σ H fun b H1 => if b = true then tu D σ H1 else tw D σ H1) : tIfS t tu tw D σ H := h
theorem g_next (h : D.nx σ H) : tNext D σ H := h
theorem g_nx {a c d : L2.St → Hp → Prop} {b : VK} (h : a σ H) : Ends.nx ⟨a, b, c, d⟩ σ H := h
theorem g_rt {a c d : L2.St → Hp → Prop} {b : VK} {v : V} (h : b v H) : Ends.rt ⟨a, b, c, d⟩ v H := h
theorem g_ite {c : Bool} {A B : Prop} (h1 : c = true → A) (h2 : c = false → B) : if c = true then A else B := by
  cases c with
  | true => exact h1 rfl
  | false => exact h2 rfl
theorem g_iteNT {A B : Prop} (h : B) : if (!true) = true then A else B := h
theorem g_iteNF {A B : Prop} (h : A) : if (!false) = true then A else B := h
theorem g_iteD {c : Prop} [Decidable c] {A B : Prop} (h1 : c → A) (h2 : ¬ c → B) : if decide c = true then A else B := by
  by_cases h : c
  · rw [decide_eq_true h]; exact h1 h
  · rw [decide_eq_false h]; exact h2 h
theorem g_iteN {c : Prop} [Decidable c] {A B : Prop} (h1 : ¬ c → A) (h2 : c → B) : if (!decide c) = true then A else B := by
  by_cases h : c
  · rw [decide_eq_true h]; exact h2 h
  · rw [decide_eq_false h]; exact h1 h
theorem g_cut (Mid : L2.St → Hp → Prop) (h : tu { D with nx := Mid } σ H) (k : ∀ σ' H', Mid σ' H' → tz D σ' H') : Evl.tCut tu tz D σ H := ⟨Mid, h, k⟩
end
/-! loops -/
section
variable {K : PySem.W.Frag} {σ : L2.St} {H : Hp} {te : TE} {D : Ends} {tu : TS} {tA : TA}
theorem f_R1 {j : Nat} {n : Int} (hn : -(2 ^ 62) ≤ n ∧ n < 2 ^ 62) (Pv : Nat → L2.St → Hp → Prop) (h0 : Pv 0 σ H)
    (hs : ∀ (i : Nat) σ' H', (i : Int) < n → Pv i σ' H' → tu { D with nx := Pv (i + 1), ct := Pv (i + 1), bk := D.nx } (σ'.set j (some (.int (i : Int)))) H')
    (hd : ∀ σ' H', Pv n.toNat σ' H' → D.nx σ' H') (ht : ∀ Q : List V → Hp → Prop, Q [.int n] H → tA σ H Q) : tFor (iRng1 tA) (gName j) tu D σ H :=
  ht _ ⟨n, rfl, hn.1, hn.2, for_range (lo := 0) (n := n.toNat) Pv h0 (fun i σ' H' hi p => by
    have e0 : (0 : Int) + (i : Int) = (i : Int) := Int.zero_add _
    show tu { D with nx := Pv (i + 1), ct := Pv (i + 1), bk := D.nx } (σ'.set j (some (.int ((0 : Int) + (i : Int))))) H'
    rw [e0]
    exact hs i σ' H' (by omega) p) hd⟩
theorem f_R2 {j : Nat} {lo n : Int} (hn : -(2 ^ 62) ≤ lo ∧ lo < 2 ^ 62 ∧ -(2 ^ 62) ≤ n ∧ n < 2 ^ 62) (Pv : Nat → L2.St → Hp → Prop) (h0 : Pv 0 σ H)
    (hs : ∀ (i : Nat) σ' H', lo + (i : Int) < n → Pv i σ' H' → tu { D with nx := Pv (i + 1), ct := Pv (i + 1), bk := D.nx } (σ'.set j (some (.int (lo + (i : Int))))) H')
    (hd : ∀ σ' H', Pv (n - lo).toNat σ' H' → D.nx σ' H') (ht : ∀ Q : List V → Hp → Prop, Q [.int lo, .int n] H → tA σ H Q) : tFor (iRng2 tA) (gName j) tu D σ H :=
  ht _ ⟨lo, n, rfl, hn, for_range (lo := lo) (n := (n - lo).toNat) Pv h0 (fun i σ' H' hi p => hs i σ' H' (by omega) p) hd⟩
/-- range(n - 1, -1, -1), by the places from above -/
theorem f_Dn {j : Nat} {n : Nat} (hn : (n : Int) < 2 ^ 62) (Pv : Nat → L2.St → Hp → Prop) (h0 : Pv n σ H)
    (hs : ∀ (k : Nat) σ' H', k < n → Pv (k + 1) σ' H' → tu { D with nx := Pv k, ct := Pv k, bk := D.nx } (σ'.set j (some (.int (k : Int)))) H')
    (hd : ∀ σ' H', Pv 0 σ' H' → D.nx σ' H') (ht : ∀ Q : List V → Hp → Prop, Q [.int ((n : Int) - 1), .int (-1), .int (-1)] H → tA σ H Q) : tFor (iRng3 tA) (gName j) tu D σ H :=
  ht _ ⟨(n : Int) - 1, -1, -1, ((n : Int) - 1 - -1).toNat, rfl, RgC.neg (by omega) (by omega) (by decide) (by decide), by
    have en : ((n : Int) - 1 - -1).toNat = n := by omega
    rw [en]
    refine for_rangeC (lo := (n : Int) - 1) (c := -1) (n := n) (fun i => Pv (n - i)) h0 (fun i σ' H' hi p => ?_) fun σ' H' p => ?_
    · have ek : (n : Int) - 1 + (i : Int) * -1 = ((n - 1 - i : Nat) : Int) := by omega
      have e1 : n - (i + 1) = n - 1 - i := by omega
      have e2 : n - i = n - 1 - i + 1 := by omega
      show tu { D with nx := Pv (n - (i + 1)), ct := Pv (n - (i + 1)), bk := D.nx } (σ'.set j (some (.int ((n : Int) - 1 + (i : Int) * -1)))) H'
      rw [ek, e1]
      exact hs (n - 1 - i) σ' H' (by omega) (by rw [← e2]; exact p)
    · rw [Nat.sub_self] at p
      exact hd σ' H' p⟩
theorem f_L {a : Addr} {xs : List V} {j : Nat} (hx : SqL K H a xs) (Pv : Nat → L2.St → Hp → Prop) (h0 : Pv 0 σ H) (hl : ∀ i σ' H', i ≤ xs.length → Pv i σ' H' → SqL K H' a xs)
    (hs : ∀ i x σ' H', xs[i]? = some x → Pv i σ' H' → tu { D with nx := Pv (i + 1), ct := Pv (i + 1), bk := D.nx } (σ'.set j (some x)) H')
    (hd : ∀ σ' H', Pv xs.length σ' H' → D.nx σ' H') (ht : ∀ Q : VK, Q (.ref a) H → te σ H Q) : tFor (iList K te) (gName j) tu D σ H :=
  ht _ ⟨a, rfl, ⟨xs, hx⟩, for_list Pv h0 hl hs hd⟩
theorem g_forL {j : Nat} (h : te σ H fun x H1 => ∃ a, x = .ref a ∧ (∃ xs, SqL K H1 a xs) ∧ ∃ W : Nat → Nat → L2.St → Hp → Prop, (∃ m, W 0 m σ H1) ∧ ∀ i m σ H, W i m σ H →
      ((Itl K a).stop i H ∧ D.nx σ H) ∨ ((Itl K a).go i H ∧ ∃ N : L2.St → Hp → Prop, (∀ σ' H', N σ' H' → ∃ m', m' < m ∧ W (i + 1) m' σ' H') ∧ ∀ x H', (Itl K a).yld i H x H' → gName j x σ H' fun σ2 H2 => tu { D with nx := N, ct := N, bk := D.nx } σ2 H2)) :
    tFor (iList K te) (gName j) tu D σ H := h
theorem f_L1 {a : Addr} {xs : List V} {j : Nat} (hx : SqL K H a xs) (Pv : Nat → L2.St → Hp → Prop) (h0 : Pv 0 σ H) (hl : ∀ i σ' H', i ≤ xs.length → Pv i σ' H' → SqL K H' a xs)
    (hs : ∀ i x σ' H', xs[i]? = some x → Pv i σ' H' → tu { D with nx := Pv (i + 1), ct := Pv (i + 1), bk := D.nx } (σ'.set j (some x)) H')
    (hd : ∀ σ' H', Pv xs.length σ' H' → D.nx σ' H') : ∃ a', V.ref a = .ref a' ∧ (∃ xs, SqL K H a' xs) ∧ ∃ W : Nat → Nat → L2.St → Hp → Prop, (∃ m, W 0 m σ H) ∧ ∀ i m σ H, W i m σ H →
      ((Itl K a').stop i H ∧ D.nx σ H) ∨ ((Itl K a').go i H ∧ ∃ N : L2.St → Hp → Prop, (∀ σ' H', N σ' H' → ∃ m', m' < m ∧ W (i + 1) m' σ' H') ∧ ∀ x H', (Itl K a').yld i H x H' → gName j x σ H' fun σ2 H2 => tu { D with nx := N, ct := N, bk := D.nx } σ2 H2) :=
  ⟨a, rfl, ⟨xs, hx⟩, for_list Pv h0 hl hs hd⟩
end
/-! heaps, lists -/
section
variable {K : PySem.W.Frag} {H H' H1 H2 : Hp} {a p q : Addr} {o : HO} {xs : List V}
theorem same_new (h : H p = none) : Same H (upd H p o) := fun b x e => by
  rw [upd_ne (ne_of_none e h)]; exact e
/-- what H does not know may change -/
theorem same_mut (e : Same H H') (h : H p = none) : Same H (upd H' p o) := fun b x hb => by
  rw [upd_ne (ne_of_none hb h)]; exact e b x hb
theorem upd_self (h : H p = some o) : upd H p o = H := by
  funext b
  by_cases e : b = p
  · rw [e, upd_same, h]
  · rw [upd_ne e]
theorem sq_of (h : H a = some (.lst xs)) : SqL K H a xs := .inl (.inl h)
theorem sqt_of (h : H a = some (.tup xs)) : SqT K H a xs := .inl (.inl h)
theorem seqT (e : Same H H') (h : SqT K H a xs) : SqT K H' a xs := by
  rcases h with (h | ⟨o, h⟩) | h
  · exact .inl (.inl (e _ _ h))
  · exact .inl (.inr ⟨o, e _ _ h⟩)
  · exact .inr h
/-- another address is written -/
theorem sq_upd (h : SqL K H a xs) (ne : a ≠ p) : SqL K (upd H p o) a xs := by
  rcases h with (h | ⟨o', h⟩) | h
  · exact .inl (.inl (by rw [upd_ne ne]; exact h))
  · exact .inl (.inr ⟨o', by rw [upd_ne ne]; exact h⟩)
  · exact .inr h
theorem at_int {ns : List Int} {k : Nat} (h : k < ns.length) : atI (ns.map V.int) (k : Int) = some (.int (ns.getD k 0)) := atI_nat (by
  rw [List.getElem?_map, List.getD_eq_getElem?_getD, List.getElem?_eq_getElem h]; rfl)
theorem at_val {ns : List Int} {k : Nat} {x : Int} (h : ns[k]? = some x) : atI (ns.map V.int) (k : Int) = some (.int x) := atI_nat (by rw [List.getElem?_map, h]; rfl)
theorem at_neg1 {ns : List Int} {x : Int} (h : ns[ns.length - 1]? = some x) : atI (ns.map V.int) (-1) = some (.int x) := by
  have hl := (List.getElem?_eq_some_iff.mp h).1
  unfold atI ixN
  rw [List.length_map, if_neg (by decide), if_pos (by omega)]
  show (ns.map V.int)[((-1 : Int) + (ns.length : Int)).toNat]? = _
  rw [show ((-1 : Int) + (ns.length : Int)).toNat = ns.length - 1 by omega, List.getElem?_map, h]
  rfl
theorem at_neg2 {ns : List Int} {x : Int} (h : ns[ns.length - 2]? = some x) (h2 : 2 ≤ ns.length := by omega) : atI (ns.map V.int) (-2) = some (.int x) := by
  unfold atI ixN
  rw [List.length_map, if_neg (by decide), if_pos (by omega)]
  show (ns.map V.int)[((-2 : Int) + (ns.length : Int)).toNat]? = _
  rw [show ((-2 : Int) + (ns.length : Int)).toNat = ns.length - 2 by omega, List.getElem?_map, h]
  rfl
theorem at_intZ {ns : List Int} {z : Int} (h0 : 0 ≤ z) (h : z < (ns.length : Int)) : atI (ns.map V.int) z = some (.int (ns.getD z.toNat 0)) := by
  have e : z = (z.toNat : Int) := by omega
  have l : z.toNat < ns.length := by omega
  have q := at_int l
  rw [← e] at q
  exact q
theorem getD_map {ns : List Int} {i : Nat} {x : V} (h : (ns.map V.int)[i]? = some x) : ∃ z, x = .int z ∧ ns[i]? = some z := by
  rw [List.getElem?_map] at h
  cases e : ns[i]? with
  | none => rw [e] at h; cases h
  | some z => rw [e] at h; exact ⟨z, (Option.some.inj h).symm, rfl⟩
theorem ixN_nat {n j : Nat} (hj : j < n) : ixN n (j : Int) = some j := by
  unfold ixN
  rw [if_pos (by omega), if_pos (by omega)]
  simp
theorem small_le {n : Nat} (h : n ≤ 100000) : n ≤ sizeLine := Nat.le_trans h (by decide)
theorem small_lt {n : Nat} (h : n < 100000) : n < sizeLine := Nat.lt_of_lt_of_le h (by decide)
end
/-! a def that may be called -/
structure Cal (P : Program) (w : World) (K : PySem.W.Frag) (mg : Str → Option Value) (base : Heap) (k : Nat) (x : Str) (ps : List Str) (sp : Sp) : Prop where
  ex : ∃ f fd, FnOk P w K mg base CX0 k f fd ps sp ∧ mg x = some (.ref f) ∧ PySem.W.keepIn K (.ref f) = true ∧ Binds K fd ps []
section
variable {X : Cx} {k j : Nat} {x : Str} {ps : List Str} {sp : Sp} {e : Expr} {es : List Expr} {t : TA} {p pos : Pos}
theorem pe_cal (c : Cal X.prog X.w X.K X.mg X.base k x ps sp) (hr : Room j X.A) (hk : k ≤ j) (ha : PA X (e :: es) t) (hg : Gl X x := by rfl) (hdb : (x == ("__debug__" : Str)) = false := by decide)
    (he : starEach (e :: es) X.env = (false, eval e X.env) :: starEach es X.env := by rfl) (hpl : (backTo pos (starEach es X.env)).any (·.1) = false := by rfl) :
    PE X (.Call (.Name x p) (e :: es) [] pos) (tCall sp [] E0 t) := by
  obtain ⟨f, fd, F, hm, hkp, hb⟩ := c.ex
  exact pe_call F (hr.mono hk) hg hm hkp hb .nil pass0 ha hdb he hpl
end
end Cj
namespace Cj
open PySem
/-- the built-in names that the text does not bind -/
structure Bn (mg : Str → Option Value) : Prop where
  m_len : mg "len" = none
  m_range : mg "range" = none
  m_list : mg "list" = none
  m_sum : mg "sum" = none
  m_min : mg "min" = none
  m_max : mg "max" = none
  m_isinstance : mg "isinstance" = none
  m_str : mg "str" = none
  m_int : mg "int" = none
  m_bool : mg "bool" = none
  m_tuple : mg "tuple" = none
  m_ValueError : mg "ValueError" = none
end Cj
namespace Cj
open PySem PySem.Spec PyProof.Rows L2
/-! readings by names -/
def rLn (K : PySem.W.Frag) : List V → Hp → VK → Prop := fun xs H Q => ∃ p ys, xs = [.ref p] ∧ (SqL K H p ys ∨ SqT K H p ys) ∧ Q (.int ys.length) H
def rLs (K : PySem.W.Frag) : List V → Hp → VK → Prop := fun xs H Q => ∃ p ys, xs = [.ref p] ∧ (SqL K H p ys ∨ SqT K H p ys) ∧ ∀ l, H l = none → Q (.ref l) (upd H l (.lst ys))
def rIsN : R2 := fun x y H Q => y = .non ∧ Q (.bl (decide (x = .non))) H
def rNotN : R2 := fun x y H Q => y = .non ∧ Q (.bl (!decide (x = .non))) H
section
variable {X : Cx}
theorem ix_listK {K : PySem.W.Frag} (h : X.K = K) : IxR X (rIxL K) := by
  rw [← h]; exact ix_list
theorem call_ln : CallR X (.builtin "len") (rLn X.K) := call_len_seq
theorem call_ls : CallR X (.type "list") (rLs X.K) := call_list_of
theorem op_is1 : OpR X (compareOp .Is) rIsN := op_isN
theorem op_isn1 : OpR X (compareOp .IsNot) rNotN := op_notN
end
section
variable {K : PySem.W.Frag} {H : Hp} {Q : VK}
theorem g_ln {p : Addr} {xs : List V} (h : SqL K H p xs) (q : Q (.int xs.length) H) : rLn K [.ref p] H Q := ⟨p, xs, rfl, .inl h, q⟩
theorem g_lnI {p : Addr} {ns : List Int} (h : SqL K H p (ns.map V.int)) (q : Q (.int ns.length) H) : rLn K [.ref p] H Q := ⟨p, _, rfl, .inl h, by rw [List.length_map]; exact q⟩
theorem g_lnT {p : Addr} {xs : List V} (h : SqT K H p xs) (q : Q (.int xs.length) H) : rLn K [.ref p] H Q := ⟨p, xs, rfl, .inr h, q⟩
theorem g_ls {p : Addr} {xs : List V} (h : SqL K H p xs) (q : ∀ l, H l = none → Q (.ref l) (upd H l (.lst xs))) : rLs K [.ref p] H Q := ⟨p, xs, rfl, .inl h, q⟩
theorem g_isN {x : V} (q : Q (.bl (decide (x = .non))) H) : rIsN x .non H Q := ⟨rfl, q⟩
theorem g_notN {x : V} (q : Q (.bl (!decide (x = .non))) H) : rNotN x .non H Q := ⟨rfl, q⟩
theorem g_app {l : Addr} {xs : List V} {y : V} (h : H l = some (.lst xs)) (hz : xs.length < sizeLine) (q : Q .non (upd H l (.lst (xs ++ [y])))) : rAppend (.ref l) [y] H Q := ⟨l, xs, y, rfl, rfl, h, hz, q⟩
theorem g_setL {l : Addr} {xs : List V} {k : Int} {j : Nat} {v : V} {R : Hp → Prop} (h : H l = some (.lst xs)) (hk : ixN xs.length k = some j) (q : R (upd H l (.lst (xs.set j v)))) : rSetL (.ref l) (.int k) v H R := ⟨l, xs, k, j, rfl, rfl, h, hk, q⟩
theorem g_sum {p : Addr} {ns : List Int} (h : SqL K H p (ns.map V.int)) (q : Q (.int ns.sum) H) : rSum K [.ref p] H Q := ⟨p, ns, rfl, h, q⟩
end
end Cj
namespace Cj
open PySem PySem.Spec PyProof.Rows L2
/-! comprehensions: G i is what stands behind i turns -/
section
variable {K : PySem.W.Frag} {σ : L2.St} {H : Hp} {te tl : TE} {tt : TT} {Q : VK} {tA : TA} {QB : Bool → Hp → Prop}
theorem g_yes (q : QB true H) : tYes σ H QB := q
theorem lc_end {D : Addr} {G : Nat → List V} {i : Nat} {y : V} (hs : (G i).length < sizeLine) (hG : G (i + 1) = G i ++ [y]) :
    ∃ acc, (upd H D (.lst (G i))) D = some (.lst acc) ∧ acc.length < sizeLine ∧ upd (upd H D (.lst (G i))) D (.lst (acc ++ [y])) = upd H D (.lst (G (i + 1))) :=
  ⟨G i, upd_same, hs, by rw [upd_upd, hG]⟩
theorem g_lcL {a : Addr} {xs : List V} {j : Nat} {vs : List Nat} (G : Nat → List V) (hG : G 0 = []) (hx : SqL K H a xs) (hw : ∀ x, wipe ((wipe σ vs).set j (some x)) vs = wipe σ vs)
    (hs : ∀ (i : Nat) (x : V) (D : Addr), xs[i]? = some x → H D = none → SqL K (upd H D (.lst (G i))) a xs → tt ((wipe σ vs).set j (some x)) (upd H D (.lst (G i))) fun b H3 =>
      if b = true then te ((wipe σ vs).set j (some x)) H3 fun y H4 => ∃ acc, H4 D = some (.lst acc) ∧ acc.length < sizeLine ∧ upd H4 D (.lst (acc ++ [y])) = upd H D (.lst (G (i + 1))) else H3 = upd H D (.lst (G (i + 1))))
    (q : ∀ D, H D = none → Q (.ref D) (upd H D (.lst (G xs.length)))) (ht : ∀ Q : VK, Q (.ref a) H → tl σ H Q) : tLc (iList K tl) (gName j) tt te vs σ H Q :=
  ht _ ⟨a, rfl, ⟨xs, hx⟩, fun D hD => lc_list (xs := xs) (fun i H' => H' = upd H D (.lst (G i))) (by rw [hG]) (fun i H' _ e => by rw [e]; exact (same_new hD).seq hx)
    (fun i x H' hi e => by rw [e]; exact ⟨hw x, hs i x D hi hD ((same_new hD).seq hx)⟩) (fun H' e => by rw [e]; exact q D hD)⟩
theorem g_lcR {j : Nat} {vs : List Nat} {n : Int} (G : Nat → List V) (hG : G 0 = []) (hn : -(2 ^ 62) ≤ n ∧ n < 2 ^ 62) (hw : ∀ x, wipe ((wipe σ vs).set j (some x)) vs = wipe σ vs)
    (hs : ∀ (i : Nat) (D : Addr), (i : Int) < n → H D = none → tt ((wipe σ vs).set j (some (.int (i : Int)))) (upd H D (.lst (G i))) fun b H3 =>
      if b = true then te ((wipe σ vs).set j (some (.int (i : Int)))) H3 fun y H4 => ∃ acc, H4 D = some (.lst acc) ∧ acc.length < sizeLine ∧ upd H4 D (.lst (acc ++ [y])) = upd H D (.lst (G (i + 1))) else H3 = upd H D (.lst (G (i + 1))))
    (q : ∀ D, H D = none → Q (.ref D) (upd H D (.lst (G n.toNat)))) (ht : ∀ Q : List V → Hp → Prop, Q [.int n] H → tA σ H Q) : tLc (iRng1 tA) (gName j) tt te vs σ H Q :=
  ht _ ⟨n, rfl, hn.1, hn.2, fun D hD => lc_range (lo := 0) (n := n.toNat) (fun i H' => H' = upd H D (.lst (G i))) (by rw [hG])
    (fun i H' hi e => by
      have e0 : (0 : Int) + (i : Int) = (i : Int) := Int.zero_add _
      show wipe ((wipe σ vs).set j (some (.int ((0 : Int) + (i : Int))))) vs = wipe σ vs ∧ tt ((wipe σ vs).set j (some (.int ((0 : Int) + (i : Int))))) H' _
      rw [e0, e]
      exact ⟨hw _, hs i D (by omega) hD⟩) (fun H' e => by rw [e]; exact q D hD)⟩
end
end Cj
namespace Cj
open PySem PySem.Spec PyProof.Rows L2
/-- a list of ints, as it stands -/
abbrev LI (ns : List Int) : HO := .lst (ns.map V.int)
/-- a new list of ints is given back -/
def RetL (xs : List Int) (H : Hp) (Q : VK) : Prop := ∀ (p : Addr) (H' : Hp), H p = none → Same H H' → H' p = some (LI xs) → Q (.ref p) H'
theorem LI_set (xs : List Int) (k : Nat) (v : Int) : (xs.map V.int).set k (.int v) = (xs.set k v).map V.int := List.map_set.symm
theorem LI_app (xs : List Int) (v : Int) : (xs.map V.int) ++ [.int v] = (xs ++ [v]).map V.int := by rw [List.map_append]; rfl
theorem LI_len (xs : List Int) : (xs.map V.int).length = xs.length := List.length_map _
end Cj
namespace Cj
open PySem PySem.Spec PyProof.Rows L2
/-! isinstance -/
section
variable {K : PySem.W.Frag} {H : Hp} {Q : VK}
theorem g_isInt {i : Int} (q : Q (.bl true) H) : rIsi K [.int i, .ty "int"] H Q := ⟨.int i, .ty "int", .type "int", .type "int", true, rfl, .ty _, .base (.int i), kit_ty (by decide +kernel), q⟩
theorem g_isIB {i : Int} (q : Q (.bl false) H) : rIsi K [.int i, .ty "bool"] H Q := ⟨.int i, .ty "bool", .type "int", .type "bool", false, rfl, .ty _, .base (.int i), kit_ty (by decide +kernel), q⟩
theorem g_isLst {a : Addr} {xs : List V} (h : H a = some (.lst xs)) (q : Q (.bl true) H) : rIsi K [.ref a, .ty "list"] H Q := ⟨.ref a, .ty "list", .type "list", .type "list", true, rfl, .ty _, .base (.lst h), kit_ty (by decide +kernel), q⟩
theorem g_isTup {a : Addr} {xs : List V} (h : H a = some (.tup xs)) (q : Q (.bl true) H) : rIsi K [.ref a, .ty "tuple"] H Q := ⟨.ref a, .ty "tuple", .type "tuple", .type "tuple", true, rfl, .ty _, .base (.tup h), kit_ty (by decide +kernel), q⟩
theorem g_isStr {z : Str} (q : Q (.bl true) H) : rIsi K [.str z, .ty "str"] H Q := ⟨.str z, .ty "str", .type "str", .type "str", true, rfl, .ty _, .base (.str z), kit_ty (by decide +kernel), q⟩
theorem g_isNT (q : Q (.bl false) H) : rIsi K [.non, .ty "tuple"] H Q := ⟨.non, .ty "tuple", .type "NoneType", .type "tuple", false, rfl, .ty _, .base .non, kit_ty (by decide +kernel), q⟩
end
end Cj
namespace Cj
open PySem PySem.Spec PyProof.Rows L2
/-! slices, lists joined -/
section
variable {K : PySem.W.Frag} {σ : L2.St} {H : Hp} {te : TE} {tl th : TO} {Q : VK} {QO : Option Int → Hp → Prop}
theorem g_sl {r : V → Option Int → Option Int → Hp → VK → Prop} (h : te σ H fun x H1 => tl σ H1 fun l H2 => th σ H2 fun u H3 => r x l u H3 Q) : tSl r te tl th σ H Q := h
theorem g_part (h : te σ H fun x H1 => ∃ i, x = .int i ∧ QO (some i) H1) : tPart te σ H QO := h
theorem g_nopart (h : QO none H) : tNoPart σ H QO := h
theorem g_int {i : Int} {P : Int → Prop} (q : P i) : ∃ k, V.int i = V.int k ∧ P k := ⟨i, rfl, q⟩
theorem g_slL {a : Addr} {xs : List V} {lo hi : Option Int} (h : SqL K H a xs) (q : ∀ p, H p = none → Q (.ref p) (upd H p (.lst (cutV xs lo hi)))) : rSlL K (.ref a) lo hi H Q := ⟨a, xs, rfl, h, q⟩
theorem g_cat {l b : Addr} {xs zs : List V} (h1 : H l = some (.lst xs)) (h2 : H b = some (.lst zs)) (hs : xs.length + zs.length ≤ sizeLine) (q : ∀ p, H p = none → Q (.ref p) (upd H p (.lst (xs ++ zs)))) : rCat (.ref l) (.ref b) H Q := ⟨l, b, xs, zs, rfl, rfl, h1, h2, hs, q⟩
theorem cut_from (xs : List V) (k : Nat) : cutV xs (some (k : Int)) none = xs.drop k := by
  unfold cutV
  rw [HT.sIx_nat, HT.sIx_none]
  by_cases h : k ≤ xs.length
  · rw [Nat.min_eq_left h, List.take_of_length_le (by rw [List.length_drop]; exact Nat.le_refl _)]
  · rw [Nat.min_eq_right (by omega), List.drop_length, List.drop_eq_nil_of_le (by omega), List.take_nil]
theorem cut_to (xs : List V) (k : Nat) : cutV xs none (some (k : Int)) = xs.take k := by
  unfold cutV
  rw [HT.sIx_nat, HT.sIx_none, List.drop_zero, Nat.sub_zero]
  by_cases h : k ≤ xs.length
  · rw [Nat.min_eq_left h]
  · rw [Nat.min_eq_right (by omega), List.take_length, List.take_of_length_le (by omega)]
theorem cut_last (xs : List V) : cutV xs none (some (-1)) = xs.take (xs.length - 1) := by
  have e : HT.sIx xs.length xs.length (some (-1)) = xs.length - 1 := by
    show (if (-1 : Int) < 0 then ((-1 : Int) + (xs.length : Int)).toNat else min (-1 : Int).toNat xs.length) = xs.length - 1
    rw [if_pos (by decide)]
    omega
  unfold cutV
  rw [HT.sIx_none, List.drop_zero, Nat.sub_zero, e]
end
end Cj
namespace Cj
open PySem PySem.Spec PyProof.Rows L2
/-! two lists of ints compared -/
theorem eqv_ints : ∀ ns ms : List Int, PyData.eqvAll (ns.map PyData.int) (ms.map PyData.int) = decide (ns = ms)
  | [], [] => rfl
  | [], _ :: _ => rfl
  | _ :: _, [] => rfl
  | x :: xs, y :: ys => by
    show ((x == y) && PyData.eqvAll (xs.map PyData.int) (ys.map PyData.int)) = _
    rw [eqv_ints xs ys, Bool.eq_iff_iff]
    simp
section
variable {K : PySem.W.Frag} {H : Hp} {Q : VK}
theorem dp_ints : ∀ ns : List Int, DpAll K H (ns.map V.int) (ns.map PyData.int)
  | [] => .nil
  | x :: xs => .cons (.int x) (dp_ints xs)
theorem g_eqL {a b : Addr} {ns ms : List Int} (ha : SqL K H a (ns.map V.int)) (hb : SqL K H b (ms.map V.int)) (q : Q (.bl (decide (ns = ms))) H) : rEqD K (.ref a) (.ref b) H Q :=
  ⟨_, _, .lst ha (dp_ints ns), .lst hb (dp_ints ms), PySem.W.shaped_ints ns, PySem.W.shaped_ints ms, by
    show Q (.bl (PyData.eqvAll (ns.map PyData.int) (ms.map PyData.int))) H
    rw [eqv_ints]
    exact q⟩
theorem g_neL {a b : Addr} {ns ms : List Int} (ha : SqL K H a (ns.map V.int)) (hb : SqL K H b (ms.map V.int)) (q : Q (.bl (!decide (ns = ms))) H) : rNeD K (.ref a) (.ref b) H Q :=
  ⟨_, _, .lst ha (dp_ints ns), .lst hb (dp_ints ms), PySem.W.shaped_ints ns, PySem.W.shaped_ints ms, by
    show Q (.bl (!PyData.eqvAll (ns.map PyData.int) (ms.map PyData.int))) H
    rw [eqv_ints]
    exact q⟩
theorem g_eqS {a b : Addr} {ns : List Int} (ha : SqL K H a (ns.map V.int)) (hb : SqL K H b (ns.map V.int)) (q : Q (.bl true) H) : rEqD K (.ref a) (.ref b) H Q := g_eqL ha hb (by rw [decide_eq_true rfl]; exact q)
theorem g_neS {a b : Addr} {ns : List Int} (ha : SqL K H a (ns.map V.int)) (hb : SqL K H b (ns.map V.int)) (q : Q (.bl false) H) : rNeD K (.ref a) (.ref b) H Q := g_neL ha hb (by rw [decide_eq_true rfl]; exact q)
end
end Cj
namespace Cj
open PySem PySem.Spec PyProof.Rows L2
/-! new objects, the heap behind them by a name -/
section
variable {K : PySem.W.Frag} {H H' : Hp} {Q : VK} {p : Addr} {o : HO}
theorem same_of (e : upd H p o = H') (hp : H p = none) : Same H H' := by
  rw [← e]; exact same_new hp
theorem at_upd (e : upd H p o = H') : H' p = some o := by
  rw [← e]; exact upd_same
theorem g_slN {a : Addr} {xs ys : List V} {lo hi : Option Int} (h : SqL K H a xs) (e : cutV xs lo hi = ys) (q : ∀ p H', H p = none → Same H H' → H' p = some (.lst ys) → Q (.ref p) H') : rSlL K (.ref a) lo hi H Q :=
  g_slL h fun p hp => by
    rw [e]
    exact q p _ hp (same_new hp) upd_same
theorem g_catN {l b : Addr} {xs zs ys : List V} (h1 : H l = some (.lst xs)) (h2 : H b = some (.lst zs)) (hs : xs.length + zs.length ≤ 100000) (e : xs ++ zs = ys) (q : ∀ p H', H p = none → Same H H' → H' p = some (.lst ys) → Q (.ref p) H') : rCat (.ref l) (.ref b) H Q :=
  g_cat h1 h2 (small_le hs) fun p hp => by
    rw [e]
    exact q p _ hp (same_new hp) upd_same
theorem g_lsN {a : Addr} {xs : List V} (h : SqL K H a xs) (q : ∀ p H', H p = none → Same H H' → H' p = some (.lst xs) → Q (.ref p) H') : rLs K [.ref a] H Q := g_ls h fun p hp => q p _ hp (same_new hp) upd_same
end
end Cj
namespace Cj
open PySem PySem.Spec PyProof.Rows L2
/-! texts -/
def rCatS : R2 := fun x y H Q => ∃ i j, x = .str i ∧ y = .str j ∧ i.length + j.length ≤ sizeLine ∧ Q (.str (i ++ j)) H
def rStrI : List V → Hp → VK → Prop := fun xs H Q => ∃ i, xs = [.int i] ∧ i.natAbs.log2 < 1920 ∧ Q (.str (Str.ofString (toString i))) H
def rLnS : List V → Hp → VK → Prop := fun xs H Q => ∃ z, xs = [.str z] ∧ z.length ≤ sizeLine ∧ Q (.int z.length) H
section
variable {X : Cx}
theorem op_catS : OpR X (binaryOp .Add) rCatS := op_add_str
theorem call_strI : CallR X (.type "str") rStrI := call_str_int
theorem call_lnS : CallR X (.builtin "len") rLnS := call_len_str
end
section
variable {K : PySem.W.Frag} {H : Hp} {Q : VK}
theorem g_catS {i j : Str} (h : i.length + j.length ≤ 100000) (q : Q (.str (i ++ j)) H) : rCatS (.str i) (.str j) H Q := ⟨i, j, rfl, rfl, small_le h, q⟩
theorem g_strI {i : Int} (h : i.natAbs < 2 ^ 1900) (q : Q (.str (Str.ofString (toString i))) H) : rStrI [.int i] H Q := ⟨i, rfl, Nat.lt_trans (PySem.Flt.log2_lt_of (by decide) h) (by decide), q⟩
theorem g_lnS {z : Str} (h : z.length ≤ 100000) (q : Q (.int z.length) H) : rLnS [.str z] H Q := ⟨z, rfl, small_le h, q⟩
theorem g_eqS' {i j : Str} (q : Q (.bl (decide (i = j))) H) : rEq (.str i) (.str j) H Q := ⟨rfl, by
  have e : decide (V.str i = V.str j) = decide (i = j) := by simp
  rw [e]; exact q⟩
theorem g_neS' {i j : Str} (q : Q (.bl (!decide (i = j))) H) : rNe (.str i) (.str j) H Q := ⟨rfl, by
  have e : decide (V.str i = V.str j) = decide (i = j) := by simp
  rw [e]; exact q⟩
end
def rJn (K : PySem.W.Frag) : V → List V → Hp → VK → Prop := fun x xs H Q => ∃ a p, ∃ ys : List Str, x = .str a ∧ xs = [.ref p] ∧ (SqL K H p (ys.map V.str) ∨ SqT K H p (ys.map V.str)) ∧ (ys.map (·.length)).sum + ys.length * a.length ≤ 16777216 ∧ Q (.str (Txt.join a ys)) H
def rSplt : V → List V → Hp → VK → Prop := fun x xs H Q => ∃ a b, x = .str a ∧ xs = [.str b] ∧ (b.length == 0) = false ∧ a.length + 2 ≤ sizeLine ∧ rNewStrs (Txt.split a b) H Q
theorem mt_jn {X : Cx} : MtR X "str.join" (rJn X.K) := mt_join
theorem mt_splt {X : Cx} : MtR X "str.split" rSplt := mt_split
section
variable {K : PySem.W.Frag} {σ : L2.St} {H : Hp} {to te : TE} {Q : VK}
theorem g_m1 {r : V → List V → Hp → VK → Prop} (h : to σ H fun x H1 => (∃ a, x = .str a) ∧ te σ H1 fun y H2 => r x [y] H2 Q) : tM1 r to te σ H Q := h
theorem g_m0 {r : V → List V → Hp → VK → Prop} (h : to σ H fun x H1 => (∃ a, x = .str a) ∧ r x [] H1 Q) : tM0 r to σ H Q := h
theorem g_strV {z : Str} {P : Prop} (h : P) : (∃ a, V.str z = V.str a) ∧ P := ⟨⟨z, rfl⟩, h⟩
theorem g_jn {a : Str} {p : Addr} {ys : List Str} (h : SqL K H p (ys.map V.str)) (hz : (ys.map (·.length)).sum + ys.length * a.length ≤ 100000) (q : Q (.str (Str.join a ys)) H) : rJn K (.str a) [.ref p] H Q :=
  ⟨a, p, ys, rfl, rfl, .inl h, Nat.le_trans hz (by decide), by rw [TL.join_eq]; exact q⟩
end
/-- a number as a text -/
def nst (i : Int) : Str := Str.ofString (toString i)
theorem nst_len {i : Int} {k : Nat} (h0 : 0 ≤ i) (hk : 0 < k) (h : i < 10 ^ k) : (nst i).length ≤ k := PyProof.Rows.toString_length_le h0 hk h
theorem slen_app (a b : Str) : (a ++ b).length = a.length + b.length := Str.length_append a b
end Cj

local macro_rules | `(tactic| walk_at "go1") => `(tactic| first
  | (with_reducible refine Cj.g_seq ?_)
  | (with_reducible refine Cj.g_nx ?_)
  | (with_reducible refine Cj.g_rt ?_)
  | (with_reducible refine Cj.g_asg ?_)
  | (with_reducible refine Cj.g_name ?_)
  | (with_reducible refine Cj.g_op ?_)
  | (with_reducible refine Cj.g_c ?_)
  | ((with_reducible apply Cj.g_var); (case h => exact rfl))
  | (with_reducible refine Cj.g_I0 ?_)
  | (with_reducible refine Cj.g_cons ?_)
  | (with_reducible refine Cj.g_nil ?_)
  | (with_reducible refine Cj.g_cb ?_)
  | (with_reducible refine Cj.g_call ?_)
  | (with_reducible refine Cj.g_un ?_)
  | (with_reducible refine Cj.g_U ?_)
  | (with_reducible refine Cj.g_tTest ?_)
  | (with_reducible refine Cj.g_tB ?_)
  | (with_reducible refine Cj.g_bl ?_)
  | (with_reducible refine Cj.g_if ?_)
  | (with_reducible refine Cj.g_and ?_)
  | (with_reducible refine Cj.g_or ?_)
  | (with_reducible refine Cj.g_not ?_)
  | (with_reducible refine Cj.g_andV ?_)
  | (with_reducible refine Cj.g_orV ?_)
  | (with_reducible refine Cj.g_notV ?_)
  | (with_reducible refine Cj.g_eqI ?_)
  | (with_reducible refine Cj.g_neI ?_)
  | (with_reducible refine Cj.g_drop ?_)
  | (with_reducible refine Cj.g_ret ?_)
  | (with_reducible refine Cj.g_retN ?_)
  | (with_reducible refine Cj.g_next ?_)
  | (with_reducible refine Cj.g_sub ?_)
  | (with_reducible refine Cj.g_bm ?_)
  | (with_reducible refine Cj.g_bm0 ?_)
  | (with_reducible refine Cj.g_tup ?_)
  | (with_reducible refine Cj.g_lst ?_)
  | (with_reducible refine Cj.g_isN ?_)
  | (with_reducible refine Cj.g_m1 ?_)
  | (with_reducible refine Cj.g_m0 ?_)
  | (with_reducible refine Cj.g_strV ?_)
  | (with_reducible refine Cj.g_eqS' ?_)
  | (with_reducible refine Cj.g_neS' ?_)
  | (with_reducible refine Cj.g_sl ?_)
  | (with_reducible refine Cj.g_part ?_)
  | (with_reducible refine Cj.g_nopart ?_)
  | (with_reducible refine Cj.g_int ?_)
  | (with_reducible refine Cj.g_yes ?_)
  | (with_reducible refine L2.iteT ?_)
  | (with_reducible refine Cj.g_iteNT ?_)
  | (with_reducible refine Cj.g_iteNF ?_)
  | (with_reducible refine L2.iteF ?_)
  | (with_reducible refine Cj.g_notN ?_)
  | (with_reducible refine Cj.g_isInt ?_)
  | (with_reducible refine Cj.g_isIB ?_)
  | (with_reducible refine Cj.g_isStr ?_)
  | ((with_reducible apply Cj.g_I); (case c => first | (show (0 : Int) < _; decide) | exact ⟨by decide, by decide⟩ | exact ⟨by decide, by decide, by decide⟩))
  | ((with_reducible apply Cj.g_lnI); (case h => assumption)))
local macro_rules | `(tactic| walk_at "go") => `(tactic| repeat walk_at "go1")
namespace Cj
open PySem PySem.Spec PyProof.Rows L2
/-! the five refusals: the class at D is one of them -/
/-- what the class at D says of itself (C: CoinError) -/
structure ExD (K : PySem.W.Frag) (mg : Str → Option Value) (R W A G T C D : Addr) (nD : Str) (b1 b2 b3 b4 b5 : Bool) : Prop where
  ec : ExcC K D
  nR : mg "NoRow" = some (.ref R)
  nW : mg "NoWay" = some (.ref W)
  nA : mg "NoAmount" = some (.ref A)
  nG : mg "TooGreat" = some (.ref G)
  nT : mg "NoText" = some (.ref T)
  nC : mg "CoinError" = some (.ref C)
  nD : mg nD = some (.ref D)
  q1 : PySem.W.kitOne K (.ref D) (.ref R) = some b1
  q2 : PySem.W.kitOne K (.ref D) (.ref W) = some b2
  q3 : PySem.W.kitOne K (.ref D) (.ref A) = some b3
  q4 : PySem.W.kitOne K (.ref D) (.ref G) = some b4
  q5 : PySem.W.kitOne K (.ref D) (.ref T) = some b5
  qV : PySem.W.kitOne K (.ref D) (.type "ValueError") = some true
  one : List.count true [b1, b2, b3, b4, b5] = 1
  mD : PySem.W.exmOne K (.ref D) (.ref D) = some true
  mC : PySem.W.exmOne K (.ref D) (.ref C) = some true
  ki : PySem.W.keepIn K (.ref D) = true
  ri : PySem.W.subIn K (.ref D) (.type "BaseException") = some true
  rt : PySem.W.typeIn K (.ref D) = some (.type "type")
  ex : PySem.W.excIn K D [.type "ValueError", .type "Exception", .type "BaseException", .type "object"] "ValueError.__new__" = true
def RunP (P : Program) (w : World) (K : PySem.W.Frag) (mg : Str → Option Value) (base : Heap) (k : Nat) (f : Addr) (fd : FuncData) (ps : List Str) (sp : Value → Option Addr → Hp → VK → Prop) : Prop :=
  ∀ (p : Addr × Obj) (cls : Value) (d : Option Addr) (A : Around) (outer : List Env) (s : Shared) (H : Hp) (args : Args) (us : List Value) (Q : VK), Zc cls d p.2 → (∃ fs, p.2.data = .fields fs) → L2H.RoomH k A → L2H.PinOk outer H s p → Env0 P w K mg base A outer s H →
    BindsTo s fd args (ps.zip us) → Vals [V.ref p.1] us → sp cls d H Q → codeAny (model P w) A (.call (.ref f) args) (CR CX0 outer P w H s Q E0) s
/-- a def that may be called where an exception is handled; it is handed that exception -/
structure CalP (P : Program) (w : World) (K : PySem.W.Frag) (mg : Str → Option Value) (base : Heap) (k : Nat) (x : Str) (ps : List Str) (sp : Value → Option Addr → Hp → VK → Prop) : Prop where
  ex : ∃ f fd, RunP P w K mg base k f fd ps sp ∧ mg x = some (.ref f) ∧ PySem.W.keepIn K (.ref f) = true ∧ Binds K fd ps [] ∧ ps.length = 1
/-- the same for a def that may raise -/
structure CalR (P : Program) (w : World) (K : PySem.W.Frag) (mg : Str → Option Value) (base : Heap) (k : Nat) (x : Str) (ps : List Str) (sp : Sp) : Prop where
  ex : ∃ f fd, FnOk P w K mg base (L2.CX P w) k f fd ps sp ∧ mg x = some (.ref f) ∧ PySem.W.keepIn K (.ref f) = true ∧ Binds K fd ps []
def rIsX (K : PySem.W.Frag) (cls : Value) (d : Option Addr) (a : Addr) : List V → Hp → VK → Prop := fun xs H Q => ∃ (D : Addr) (c : V) (cv : Value) (b : Bool), cls = .ref D ∧ d = none ∧ ExcC K D ∧ xs = [.ref a, c] ∧ (∀ u, RelV c u → u = cv) ∧ PySem.W.kitOne K (.ref D) cv = some b ∧ Q (.bl b) H
def tCalP (sp : Value → Option Addr → Hp → VK → Prop) (a : Addr) (cls : Value) (d : Option Addr) (te : TE) : TE := fun σ H Q => te σ H fun v H1 => v = .ref a ∧ sp cls d H1 Q
section
variable {X : Cx} {k j : Nat} {x : Str} {ps : List Str} {e : Expr} {es : List Expr} {t : TA} {te : TE} {p pos : Pos} {cls : Value} {d : Option Addr} {o : Addr × Obj}
theorem call_isX {K : PySem.W.Frag} {a : Addr} (eK : X.K = K) (ea : o.1 = a) (ho : o ∈ X.pn) (hz : Zc cls d o.2) (hf : ∃ fs, o.2.data = .fields fs) : CallR X (.builtin "isinstance") (rIsX K cls d a) := fun pins s σ H xs us Q I r h => by
  subst eK ea
  obtain ⟨D, c, cv, b, rfl, rfl, C, rfl, hcv, hb, q⟩ := h
  obtain ⟨u1, us1, rfl, r1, rr⟩ : ∃ u1 us1, us = u1 :: us1 ∧ RelV (.ref o.1) u1 ∧ Vals [c] us1 := by
    cases r with
    | cons r1 rr => exact ⟨_, _, rfl, r1, rr⟩
  obtain ⟨u2, rfl, r2⟩ := rr.one
  cases r1
  cases (hcv _ r2)
  have pinned := (I.pin o (List.mem_append_left _ ho)).1
  have at1 : PySem.W.InstAt s.heap o.1 o.2 D none := ⟨pinned, hz.1, by
    obtain ⟨fs, hfs⟩ := hf
    unfold PySem.W.notCls
    rw [hfs] <;> rfl, by
    rw [hz.2]
    trivial⟩
  have kit := PySem.W.handS_kitx_exc (x := o.1) (ox := o.2) C.hg C.hk C.hs C.hd C.ha C.hn C.ht C.hm
  exact PySem.W.kia_one kit I.kIn at1 hb (fun y => nomatch y) fun tk => ⟨V.bl b, H, I.kept (t' := tk) (fun _ _ same => same), rfl, q⟩
theorem room_up {A : Around} {v : Option Value} (r : Room j A) : L2H.RoomH j (A.mark v) := ⟨r.dp, r.un⟩
theorem pe_calP {sp : Value → Option Addr → Hp → VK → Prop} {a : Addr} (c : CalP X.prog X.w X.K X.mg X.base k x ps sp) (ea : o.1 = a) (ho : o ∈ X.pn) (hz : Zc cls d o.2) (hf : ∃ fs, o.2.data = .fields fs) (hr : L2H.RoomH j X.A) (hk : k ≤ j) (he : PE X e te) (hg : Gl X x := by rfl) (hdb : (x == ("__debug__" : Str)) = false := by decide)
    (hs : starEach (e :: []) X.env = (false, eval e X.env) :: starEach [] X.env := by rfl) (hpl : (backTo pos (starEach [] X.env)).any (·.1) = false := by rfl) :
    PE X (.Call (.Name x p) [e] [] pos) (tCalP sp a cls d te) := by
  subst ea
  obtain ⟨f, fd, run, hm, hkp, hb, h1⟩ := c.ex
  refine ⟨fun pins s σ H Q I h => wpAny_Call_Name_kw (ld_glob I hg hm ?_ hdb)⟩
  have ha : PA X [e] (tCons te tNil) := pa_cons he pa_nil hs
  refine PySem.W.callWith_K (h₀ := X.base) I.ok.mod.kin hkp (thn (ha.run pos pins s σ H (fun vs H1 => vs = [V.ref o.1] ∧ sp cls d H1 Q) I ?_) fun us s1 hh => ?_) hs hpl
  · refine (show tCons te tNil σ H _ from ?_)
    show te σ H fun v H1 => [v] = [V.ref o.1] ∧ sp cls d H1 Q
    have e2 : (fun v H1 => [v] = [V.ref o.1] ∧ sp cls d H1 Q) = (fun v H1 => v = V.ref o.1 ∧ sp cls d H1 Q) := by
      funext v H1
      simp
    rw [e2]
    exact h
  · obtain ⟨vs, H1, I1, r, ev, q⟩ := hh
    refine ⟨I1.kIn, ?_⟩
    rw [ev] at r
    have pinned := I1.pin o (List.mem_append_left _ ho)
    have far : o.1 ∉ frs X.stack := fun hm => by
      rcases List.mem_cons.mp (I1.stkSub o.1 hm) with z | z
      · exact pinned.2.2.1 z
      · exact pinned.2.2.2.1 z
    have ok : L2H.PinOk X.stack H1 s1 o := ⟨pinned.1, pinned.2.1, far, pinned.2.2.2.2⟩
    have hl : us.length = ps.length := by rw [← r.length, h1]; rfl
    have b := hb s1 us I1.kIn (by rw [List.append_nil]; exact hl)
    rw [List.append_nil] at b
    refine wpAny_call (codeAny_mono (run o cls d X.A X.stack s1 H1 ⟨us, []⟩ us Q hz hf ⟨by have := hr.dp; omega, by have := hr.un; omega⟩ ok I1.env0 b r q) fun rs s' hq => ?_)
    match rs, hq with
    | .ok (.ret u), hq => exact I1.after hq
    | .ok .next, hq => exact hq.elim
    | .ok .brk, hq => exact hq.elim
    | .ok .cont, hq => exact hq.elim
    | .error _, hq => exact hq.elim
theorem pe_calR {sp : Sp} {W : WX} (c : CalR X.prog X.w X.K X.mg X.base k x ps sp) (tk : L2.Takes X W) (hr : Room j X.A) (hk : k ≤ j) (ha : PA X (e :: es) t) (hg : Gl X x := by rfl) (hdb : (x == ("__debug__" : Str)) = false := by decide)
    (he : starEach (e :: es) X.env = (false, eval e X.env) :: starEach es X.env := by rfl) (hpl : (backTo pos (starEach es X.env)).any (·.1) = false := by rfl) :
    PE X (.Call (.Name x p) (e :: es) [] pos) (tCallS sp (WE W) t) := by
  obtain ⟨f, fd, F, hm, hkp, hb⟩ := c.ex
  exact pe_callS F (hr.mono hk) hg hm hkp hb (fun σ => passAt tk σ) ha hdb he hpl
end
/-! counting what is true -/
def isT (v : Value) : Bool := match v with
  | .bool b => b
  | _ => false
theorem isT_eq (b : Bool) : MeetsSeq.EqGives (.bool b) (.bool true) b := by
  intro prog w A E s Q h
  have z := PySem.SeqAt.EqAt.bool_bool (A := A) (s := s) b true prog w E Q
  cases b with
  | true => exact z h
  | false => exact z h
def rCntB (K : PySem.W.Frag) : V → List V → Hp → VK → Prop := fun x xs H Q => ∃ (p : Addr) (bs : List Bool), x = .ref p ∧ xs = [.bl true] ∧ SqL K H p (bs.map V.bl) ∧ Q (.int (bs.count true : Nat)) H
theorem vals_bl : ∀ {bs : List Bool} {us : List Value}, Vals (bs.map V.bl) us → us = bs.map Value.bool
  | [], _, r => by cases r; rfl
  | b :: bs, _, r => by
    cases r with
    | cons r1 rr =>
      cases r1
      rw [vals_bl rr] <;> rfl
theorem cnt_bl : ∀ bs : List Bool, (bs.map Value.bool).countP isT = bs.count true
  | [] => rfl
  | b :: bs => by
    rw [List.map_cons, List.countP_cons, List.count_cons, cnt_bl bs]
    cases b <;> rfl
theorem mt_cntB {X : Cx} : MtR X "list.count" (rCntB X.K) := fun pins s σ H x xs v us Q I rx rxs h => by
  obtain ⟨p, bs, rfl, rfl, hs, q⟩ := h
  cases rx
  obtain ⟨u, rfl, ru⟩ := rxs.one
  cases ru
  obtain ⟨its, rv, ⟨⟨cls, dd, data, sl⟩, n, ho, hc, hdn, hd⟩, _⟩ := I.list hs
  dsimp only at hc hd
  subst hc hd
  cases (vals_bl rv)
  have eqs : ∀ y, y ∈ (bs.map Value.bool).toArray → MeetsSeq.EqGives y (.bool true) (isT y) := fun y hy => by
    obtain ⟨b, _, rfl⟩ := List.mem_map.mp (by simpa using hy : y ∈ bs.map Value.bool)
    exact isT_eq b
  have many : (bs.map Value.bool).toArray.toList.countP isT = bs.count true := cnt_bl bs
  refine call_meets PySem.F.slot_list_count ⟨_, ho, rfl⟩ PySem.F.entry_list_count (PySem.F.args_list_count_2 _ _)
    (SeqAt.list_countAt p (bs.map Value.bool).toArray n dd sl (.bool true) isT) ⟨ho, fun y hy => (eqs y hy).at _ _, ?_⟩
  refine ⟨V.int (bs.count true : Nat), H, I.tok _, ⟨s.toks, ?_⟩, q⟩
  rw [← many] <;> rfl

/-! a def that is handed the exception -/
theorem run_ofP {P : Program} {w : World} {K : PySem.W.Frag} {mg : Str → Option Value} {base : Heap} {k : Nat} {x qual : Str} {st : Stmt} {f : Addr} {fd : FuncData} {N ps : List Str} {sp : Value → Option Addr → Hp → VK → Prop} (F : Fun K x qual st f fd) (S : FnScope N ps (defScope st)) (h1 : ps.length = 1)
    (hbody : ∀ (o : Addr × Obj) (cls : Value) (d : Option Addr) (cdv : Value) (A : Around) (outer : List Env) (s : Shared) (H : Hp) (Q : VK), Zc cls d o.2 → (∃ fs, o.2.data = .fields fs) → L2H.RoomH k (A.deeper (envOfC qual (defScope st) s.heap.objs.size f cdv)) → sp cls d H Q →
      ∃ t, PSs (L2H.cxH CX0 P w K mg base N qual (defScope st) f cdv A outer s H E0 o) (defBody st) t ∧ t { nx := fun _ H' => Q .non H', rt := Q } (start N [.ref o.1]) H) : RunP P w K mg base (k + 1) f fd ps sp := by
  obtain ⟨oc, od, kV, doc, pm, an, cdv, ct, osl, rfl, look, code⟩ := F.ex
  intro o cls d A outer s H args us Q hz hf room pinned e0 bound rs hsp
  have stand : ∀ b u, base.get? b = some u → s.heap.get? b = some u := fun b u z => (e0.bs b u z).1
  have KX : K.In s.heap := e0.mod.kin.keeps stand
  have kinds : ∀ y ∈ ps.zip us, (defScope st).names.lookup y.1 = some .local ∨ ((defScope st).names.lookup y.1 = some .cell ∧ ((cellsFrom (s.heap.objs.size + 1) (defScope st).names []).lookup y.1).isSome = true) := by
    rintro ⟨n, v⟩ hy
    have z := S.par n (List.of_mem_zip hy).1
    rcases z with z | z
    · exact .inl z
    · exact .inr ⟨z, PySem.W.cellsFrom_some _ _ _ (.inl z)⟩
  refine codeAny_call_function room.depth (KX _ _ look) rfl S.co S.gen rfl (PySem.W.codeRec_of KX code) (bound _ _ _ _ ?_)
  refine wpAny_newFunctionEnv_cells S.kind kinds fun env made s1 xc => ?_
  cases made
  refine ⟨(e0.mod.nolimit.keeps stand).keeps xc.toInCall.keep, codeAny_func ?_⟩
  obtain ⟨t, ht, hq⟩ := hbody o cls d cdv A outer s H Q hz hf (room.deeper _) hsp
  have J0 := L2H.inv_startH (CX := CX0) (E := E0) S pinned e0 (show [V.ref o.1].length = ps.length by rw [h1]; rfl) rs xc
  refine wpAny_mono (ht.run [] s1 (L2.start N [.ref o.1]) H _ J0 hq) (fun fl s' hs => ?_) fun _ _ z => z
  match fl, hs with
  | .ret _, ⟨v, _, H', J, rv, q⟩ => exact ⟨v, H', J.os, J.bare, J.base, J.hok, rv, q⟩
  | .next, ⟨_, H', J, q⟩ => exact ⟨V.non, H', J.os, J.bare, J.base, J.hok, rfl, q⟩
  | .brk, ⟨_, _, _, q⟩ => exact q.elim
  | .cont, ⟨_, _, _, q⟩ => exact q.elim
end Cj

/-! # What the defs compute, as plain functions -/
namespace Cj
/-- what is still due behind the coins cs (the least one first), the greatest given first -/
def rs : List Int → Int → Int
  | [], a => a
  | c :: cs, a => rs cs a % c
/-- the first way -/
def fw : List Int → Int → List Int
  | [], _ => []
  | c :: cs, a => rs cs a / c :: fw cs a
def dot : List Int → List Int → Int
  | c :: cs, v :: vs => c * v + dot cs vs
  | _, _ => 0
/-- a row of coins -/
structure Row (cs : List Int) : Prop where
  len : cs.length ≤ 12
  hd : cs[0]? = some 1
  up : ∀ (i : Nat) (x y : Int), cs[i]? = some x → cs[i + 1]? = some y → x < y
  top : ∀ x ∈ cs, x ≤ 10 ^ 60
theorem Row.pos {cs : List Int} (R : Row cs) : ∀ (i : Nat) (x : Int), cs[i]? = some x → 1 ≤ x
  | 0, x, h => by
    rw [R.hd] at h
    exact Int.le_of_eq (Option.some.inj h)
  | i + 1, x, h => by
    have hl : i < cs.length := by
      have := (List.getElem?_eq_some_iff.mp h).1
      omega
    have e := List.getElem?_eq_getElem hl
    have p := R.pos i _ e
    have q := R.up i _ x e h
    omega
theorem Row.posM {cs : List Int} (R : Row cs) : ∀ c ∈ cs, 1 ≤ c := fun c h => by
  obtain ⟨i, h⟩ := List.mem_iff_getElem?.mp h
  exact R.pos i c h
theorem Row.ne {cs : List Int} (R : Row cs) : 0 < cs.length := by
  have := (List.getElem?_eq_some_iff.mp R.hd).1
  exact this
theorem fw_length : ∀ (cs : List Int) (a : Int), (fw cs a).length = cs.length
  | [], _ => rfl
  | c :: cs, a => by
    show (fw cs a).length + 1 = cs.length + 1
    rw [fw_length cs a]
theorem drop_at {α : Type} {l : List α} {k : Nat} {x : α} (h : l[k]? = some x) : l.drop k = x :: l.drop (k + 1) := by
  obtain ⟨hk, e⟩ := List.getElem?_eq_some_iff.mp h
  rw [List.drop_eq_getElem_cons hk, e]
theorem take_at {α : Type} {l : List α} {k : Nat} {x : α} (h : l[k]? = some x) : l.take (k + 1) = l.take k ++ [x] := by
  rw [List.take_add_one, h]
  rfl
theorem dot_take : ∀ {cs ws : List Int} {i : Nat} {x y : Int}, cs[i]? = some x → ws[i]? = some y → dot (cs.take (i + 1)) (ws.take (i + 1)) = dot (cs.take i) (ws.take i) + x * y
  | [], _, _, _, _, h, _ => by simp at h
  | _ :: _, [], _, _, _, _, h => by simp at h
  | c :: cs, w :: ws, 0, x, y, h1, h2 => by
    have e1 : c = x := Option.some.inj h1
    have e2 : w = y := Option.some.inj h2
    rw [← e1, ← e2]
    simp [dot]
  | c :: cs, w :: ws, i + 1, x, y, h1, h2 => by
    have ih := dot_take (cs := cs) (ws := ws) (i := i) h1 h2
    show c * w + dot (cs.take (i + 1)) (ws.take (i + 1)) = c * w + dot (cs.take i) (ws.take i) + x * y
    rw [ih]
    omega
/-- the turn of the first way's loop -/
theorem fw_turn {cs : List Int} {k : Nat} {c : Int} (a : Int) (h : cs[k]? = some c) :
    (List.replicate (k + 1) (0 : Int) ++ fw (cs.drop (k + 1)) a).set k (rs (cs.drop (k + 1)) a / c) = List.replicate k 0 ++ fw (cs.drop k) a := by
  rw [drop_at h]
  show _ = List.replicate k 0 ++ (rs (cs.drop (k + 1)) a / c :: fw (cs.drop (k + 1)) a)
  rw [List.replicate_succ', List.append_assoc, List.set_append_right _ _ (by rw [List.length_replicate]; exact Nat.le_refl _), List.length_replicate, Nat.sub_self]
  rfl
theorem rs_turn {cs : List Int} {k : Nat} {c : Int} (a : Int) (h : cs[k]? = some c) : rs (cs.drop (k + 1)) a - rs (cs.drop (k + 1)) a / c * c = rs (cs.drop k) a := by
  rw [drop_at h]
  show _ = rs (cs.drop (k + 1)) a % c
  rw [Int.emod_def, Int.mul_comm]
theorem rs_bounds : ∀ {cs : List Int} {a : Int}, (∀ c ∈ cs, 1 ≤ c) → 0 ≤ a → 0 ≤ rs cs a ∧ rs cs a ≤ a
  | [], a, _, h => ⟨h, Int.le_refl _⟩
  | c :: cs, a, hc, h => by
    have ih := rs_bounds (cs := cs) (a := a) (fun x hx => hc x (List.mem_cons_of_mem _ hx)) h
    have h1 := hc c (List.mem_cons_self ..)
    have h2 : 0 ≤ rs cs a % c := Int.emod_nonneg _ (by omega)
    have h3 : rs cs a % c ≤ rs cs a := by
      have h4 := Int.mul_nonneg (show (0 : Int) ≤ c by omega) (Int.ediv_nonneg ih.1 (show (0 : Int) ≤ c by omega))
      rw [Int.emod_def]
      omega
    exact ⟨h2, Int.le_trans h3 ih.2⟩
end Cj
namespace Cj
theorem fw_mem : ∀ {cs : List Int} {a : Int}, (∀ c ∈ cs, 1 ≤ c) → 0 ≤ a → ∀ v ∈ fw cs a, 0 ≤ v ∧ v ≤ a
  | [], _, _, _, _, h => by cases h
  | c :: cs, a, hc, h0, v, h => by
    have hc' : ∀ x ∈ cs, 1 ≤ x := fun x hx => hc x (List.mem_cons_of_mem _ hx)
    rcases List.mem_cons.mp h with e | h
    · have b := rs_bounds hc' h0
      have h1 := hc c (List.mem_cons_self ..)
      subst e
      exact ⟨Int.ediv_nonneg b.1 (by omega), Int.le_trans (Int.ediv_le_self _ b.1) b.2⟩
    · exact fw_mem hc' h0 v h
theorem fw_drop : ∀ (cs : List Int) (a : Int) (k : Nat), (fw cs a).drop k = fw (cs.drop k) a
  | _, _, 0 => rfl
  | [], _, _ + 1 => rfl
  | _ :: cs, a, k + 1 => fw_drop cs a k
/-- what is given and what is still due -/
theorem dot_fw : ∀ (cs : List Int) (a : Int), dot cs (fw cs a) + rs cs a = a
  | [], a => by
    show 0 + a = a
    omega
  | c :: cs, a => by
    have ih := dot_fw cs a
    show c * (rs cs a / c) + dot cs (fw cs a) + rs cs a % c = a
    have e := Int.mul_ediv_add_emod (rs cs a) c
    omega
theorem rs_lt {cs : List Int} {k : Nat} {c : Int} (a : Int) (h : cs[k]? = some c) (hc : 1 ≤ c) : 0 ≤ rs (cs.drop k) a ∧ rs (cs.drop k) a < c := by
  rw [drop_at h]
  exact ⟨Int.emod_nonneg _ (by omega), Int.emod_lt_of_pos _ (by omega)⟩
theorem dot_zeros : ∀ (k : Nat) (cs ws : List Int), dot cs (List.replicate k 0 ++ ws) = dot (cs.drop k) ws
  | 0, _, _ => rfl
  | k + 1, [], ws => by
    cases ws <;> rfl
  | k + 1, c :: cs, ws => by
    show c * 0 + dot cs (List.replicate k 0 ++ ws) = dot (cs.drop k) ws
    rw [dot_zeros k cs ws]
    omega
/-- the trial of two places -/
def triW (cs : List Int) (hi lo : Nat) : List Int :=
  List.replicate lo 0 ++ ((fw cs (cs.getD hi 0 - 1)).getD lo 0 + 1) :: (fw cs (cs.getD hi 0 - 1)).drop (lo + 1)
def tri (cs : List Int) (hi lo : Nat) : Int × List Int := (dot cs (triW cs hi lo), triW cs hi lo)
theorem triW_length {cs : List Int} {hi lo : Nat} (h : lo < cs.length) : (triW cs hi lo).length = cs.length := by
  unfold triW
  rw [List.length_append, List.length_replicate, List.length_cons, List.length_drop, fw_length]
  omega
theorem triW_mem {cs : List Int} (R : Row cs) {hi lo : Nat} (hl : lo < hi) (hh : hi < cs.length) : ∀ v ∈ triW cs hi lo, 0 ≤ v ∧ v ≤ 10 ^ 60 := by
  intro v h
  have eh := List.getElem?_eq_getElem hh
  have g : cs.getD hi 0 = cs[hi] := by rw [List.getD_eq_getElem?_getD, eh]; rfl
  have p1 := R.pos hi _ eh
  have p2 := R.top _ (List.getElem_mem hh)
  have m := fw_mem (cs := cs) (a := cs.getD hi 0 - 1) R.posM (by omega)
  have ll : lo < (fw cs (cs.getD hi 0 - 1)).length := by rw [fw_length]; omega
  unfold triW at h
  rcases List.mem_append.mp h with h | h
  · have e := List.eq_of_mem_replicate h
    omega
  · rcases List.mem_cons.mp h with e | h
    · have k := m _ (List.getElem_mem ll)
      rw [List.getD_eq_getElem?_getD, List.getElem?_eq_getElem ll] at e
      have e' : v = (fw cs (cs.getD hi 0 - 1))[lo] + 1 := e
      omega
    · have k := m v (List.mem_of_mem_drop h)
      omega
theorem tri_worth {cs : List Int} {hi lo : Nat} {x : Int} (h : cs[lo]? = some x) : dot cs (triW cs hi lo) = x + (cs.getD hi 0 - 1) - rs (cs.drop lo) (cs.getD hi 0 - 1) := by
  unfold triW
  have hl : lo < cs.length := (List.getElem?_eq_some_iff.mp h).1
  have ll : lo < (fw cs (cs.getD hi 0 - 1)).length := by rw [fw_length]; omega
  have e := List.getElem?_eq_getElem ll
  rw [dot_zeros, List.getD_eq_getElem?_getD (l := fw cs (cs.getD hi 0 - 1)), e]
  have d := dot_fw (cs.drop lo) (cs.getD hi 0 - 1)
  rw [← fw_drop, drop_at e] at d
  rw [drop_at h] at d ⊢
  show x * ((fw cs (cs.getD hi 0 - 1))[lo] + 1) + _ = _
  have d' : x * (fw cs (cs.getD hi 0 - 1))[lo] + dot (cs.drop (lo + 1)) ((fw cs (cs.getD hi 0 - 1)).drop (lo + 1)) + rs (x :: cs.drop (lo + 1)) (cs.getD hi 0 - 1) = cs.getD hi 0 - 1 := d
  rw [Int.mul_add, Int.mul_one]
  omega
theorem tri_bounds {cs : List Int} (R : Row cs) {hi lo : Nat} (hl : lo < hi) (hh : hi < cs.length) : 1 ≤ (tri cs hi lo).1 ∧ (tri cs hi lo).1 ≤ 2 * 10 ^ 60 := by
  have hl' : lo < cs.length := by omega
  have e := List.getElem?_eq_getElem hl'
  have eh := List.getElem?_eq_getElem hh
  have g : cs.getD hi 0 = cs[hi] := by rw [List.getD_eq_getElem?_getD, eh]; rfl
  have p1 := R.pos hi _ eh
  have p2 := R.top _ (List.getElem_mem hh)
  have q1 := R.pos lo _ e
  have q2 := R.top _ (List.getElem_mem hl')
  have r := rs_lt (cs.getD hi 0 - 1) e q1
  have w := tri_worth (hi := hi) e
  show 1 ≤ dot cs (triW cs hi lo) ∧ dot cs (triW cs hi lo) ≤ 2 * 10 ^ 60
  rw [w]
  omega
/-- the turns of trial's two stores -/
theorem zero_turn {w : List Int} {i : Nat} (h : i < w.length) : (List.replicate i (0 : Int) ++ w.drop i).set i 0 = List.replicate (i + 1) 0 ++ w.drop (i + 1) := by
  rw [drop_at (List.getElem?_eq_getElem h), List.set_append_right _ _ (by rw [List.length_replicate]; exact Nat.le_refl _), List.length_replicate, Nat.sub_self, List.replicate_succ', List.append_assoc]
  rfl
theorem zero_at {w : List Int} {i : Nat} (h : i < w.length) : (List.replicate i (0 : Int) ++ w.drop i)[i]? = some (w.getD i 0) := by
  rw [List.getElem?_append_right (by rw [List.length_replicate]; exact Nat.le_refl _), List.length_replicate, Nat.sub_self, List.getElem?_drop, Nat.add_zero, List.getD_eq_getElem?_getD, List.getElem?_eq_getElem h]
  rfl
theorem zero_put {w : List Int} {i : Nat} (h : i < w.length) (y : Int) : (List.replicate i (0 : Int) ++ w.drop i).set i y = List.replicate i 0 ++ y :: w.drop (i + 1) := by
  rw [drop_at (List.getElem?_eq_getElem h), List.set_append_right _ _ (by rw [List.length_replicate]; exact Nat.le_refl _), List.length_replicate, Nat.sub_self]
  rfl
/-- the trials of the first n lows of one high; of all highs to h; all -/
def trow (cs : List Int) (hi n : Nat) : List (Int × List Int) := (List.range n).map (tri cs hi)
def trialsTo (cs : List Int) : Nat → List (Int × List Int)
  | 0 => []
  | h + 1 => trialsTo cs h ++ trow cs (h + 1) (h + 1)
def trialsL (cs : List Int) : List (Int × List Int) := trialsTo cs (cs.length - 1)
theorem trow_succ (cs : List Int) (hi n : Nat) : trow cs hi (n + 1) = trow cs hi n ++ [tri cs hi n] := by
  unfold trow
  rw [List.range_succ, List.map_append]
  rfl
theorem trialsTo_len (cs : List Int) : ∀ h, h ≤ 12 → (trialsTo cs h).length ≤ 12 * h
  | 0, _ => Nat.le_refl _
  | h + 1, l => by
    have ih := trialsTo_len cs h (by omega)
    show (trialsTo cs h ++ trow cs (h + 1) (h + 1)).length ≤ _
    rw [List.length_append]
    unfold trow
    rw [List.length_map, List.length_range]
    omega
theorem trialsTo_mem {cs : List Int} {p : Int × List Int} : ∀ {h : Nat}, p ∈ trialsTo cs h → ∃ hi lo, lo < hi ∧ hi ≤ h ∧ p = tri cs hi lo
  | 0, m => by cases m
  | h + 1, m => by
    rcases List.mem_append.mp m with m | m
    · obtain ⟨hi, lo, a, b, e⟩ := trialsTo_mem m
      exact ⟨hi, lo, a, by omega, e⟩
    · unfold trow at m
      obtain ⟨lo, hlo, e⟩ := List.mem_map.mp m
      exact ⟨h + 1, lo, List.mem_range.mp hlo, Nat.le_refl _, e.symm⟩
theorem mem_trialsTo {cs : List Int} {hi lo : Nat} : ∀ {h : Nat}, lo < hi → hi ≤ h → tri cs hi lo ∈ trialsTo cs h
  | 0, a, b => by omega
  | h + 1, a, b => by
    by_cases e : hi = h + 1
    · subst e
      exact List.mem_append_right _ (List.mem_map.mpr ⟨lo, List.mem_range.mpr a, rfl⟩)
    · exact List.mem_append_left _ (mem_trialsTo a (by omega))
theorem trials_mem {cs : List Int} {p : Int × List Int} (m : p ∈ trialsL cs) : ∃ hi lo, lo < hi ∧ hi < cs.length ∧ p = tri cs hi lo := by
  obtain ⟨hi, lo, a, b, e⟩ := trialsTo_mem m
  exact ⟨hi, lo, a, by omega, e⟩
theorem mem_trials {cs : List Int} {hi lo : Nat} (a : lo < hi) (b : hi < cs.length) : tri cs hi lo ∈ trialsL cs := mem_trialsTo a (by omega)
/-- the verdict -/
def better (cs : List Int) (p : Int × List Int) : Bool := decide (p.2.sum < (fw cs p.1).sum)
def lessR (p b : Int × List Int) : Bool := if p.1 = b.1 then (if p.2.sum = b.2.sum then false else decide (p.2.sum < b.2.sum)) else decide (p.1 < b.1)
def jstep (cs : List Int) (best : Option (Int × List Int)) (p : Int × List Int) : Option (Int × List Int) :=
  if better cs p = true then (match best with | none => some p | some b => if lessR p b = true then some p else some b) else best
def judgedM (cs : List Int) : Option (Int × List Int) := (trialsL cs).foldl (jstep cs) none
end Cj
namespace Cj
theorem row_one : Row [1] where
  len := by decide
  hd := rfl
  up := fun i x y _ h2 => by simp at h2
  top := fun x h => by
    rw [List.mem_singleton.mp h]
    decide
theorem Row.more {cs : List Int} (R : Row cs) {x c : Int} (h : cs[cs.length - 1]? = some x) (h1 : x < c) (h2 : c ≤ 10 ^ 60) (hl : cs.length < 12) : Row (cs ++ [c]) where
  len := by
    rw [List.length_append]
    show cs.length + 1 ≤ 12
    omega
  hd := by
    rw [List.getElem?_append_left R.ne]
    exact R.hd
  up := fun i a b ha hb => by
    by_cases hi : i + 1 < cs.length
    · rw [List.getElem?_append_left (by omega)] at ha
      rw [List.getElem?_append_left hi] at hb
      exact R.up i a b ha hb
    · have hi2 : i + 1 = cs.length := by
        have := (List.getElem?_eq_some_iff.mp hb).1
        rw [List.length_append] at this
        have e1 : ([c] : List Int).length = 1 := rfl
        omega
      rw [List.getElem?_append_left (by omega)] at ha
      rw [hi2, List.getElem?_append_right (Nat.le_refl _), Nat.sub_self] at hb
      have eb : c = b := Option.some.inj hb
      rw [show cs.length - 1 = i by omega, ha] at h
      have ea : a = x := Option.some.inj h
      omega
  top := fun y hy => by
    rcases List.mem_append.mp hy with hy | hy
    · exact R.top y hy
    · rw [List.mem_singleton.mp hy]
      exact h2
end Cj

/-! # Sums over places, ways as functions; Pearson's theorem on the least wrong amount -/
namespace Cj
def sm : Nat → (Nat → Int) → Int
  | 0, _ => 0
  | n + 1, f => sm n f + f n
theorem sm_congr {f g : Nat → Int} : ∀ {n : Nat}, (∀ k, k < n → f k = g k) → sm n f = sm n g
  | 0, _ => rfl
  | n + 1, h => by
    show sm n f + f n = sm n g + g n
    rw [sm_congr fun k hk => h k (by omega), h n (by omega)]
theorem sm_add (f g : Nat → Int) : ∀ n : Nat, sm n (fun k => f k + g k) = sm n f + sm n g
  | 0 => rfl
  | n + 1 => by
    show sm n (fun k => f k + g k) + (f n + g n) = sm n f + f n + (sm n g + g n)
    rw [sm_add f g n]
    omega
theorem sm_nonneg {f : Nat → Int} : ∀ {n : Nat}, (∀ k, k < n → 0 ≤ f k) → 0 ≤ sm n f
  | 0, _ => Int.le_refl _
  | n + 1, h => by
    have a := sm_nonneg (n := n) fun k hk => h k (by omega)
    have b := h n (by omega)
    show 0 ≤ sm n f + f n
    omega
theorem sm_mono {f : Nat → Int} {m : Nat} : ∀ {n : Nat}, m ≤ n → (∀ k, k < n → 0 ≤ f k) → sm m f ≤ sm n f
  | 0, hm, _ => by
    have e : m = 0 := by omega
    rw [e]
    exact Int.le_refl _
  | n + 1, hm, h => by
    by_cases e : m = n + 1
    · rw [e]
      exact Int.le_refl _
    · have a := sm_mono (m := m) (n := n) (by omega) fun k hk => h k (by omega)
      have b := h n (by omega)
      show sm m f ≤ sm n f + f n
      omega
theorem sm_above {f : Nat → Int} {m : Nat} : ∀ {n : Nat}, m ≤ n → (∀ k, m ≤ k → k < n → f k = 0) → sm n f = sm m f
  | 0, hm, _ => by
    have e : m = 0 := by omega
    rw [e]
  | n + 1, hm, h => by
    by_cases e : m = n + 1
    · rw [e]
    · have a := sm_above (m := m) (n := n) (by omega) fun k h1 h2 => h k h1 (by omega)
      have b := h n (by omega) (by omega)
      show sm n f + f n = sm m f
      omega
theorem sm_zero {f : Nat → Int} {n : Nat} (h : ∀ k, k < n → f k = 0) : sm n f = 0 := sm_above (m := 0) (Nat.zero_le _) fun k _ hk => h k hk
theorem sm_ge {f : Nat → Int} {n j : Nat} (hj : j < n) (h : ∀ k, k < n → 0 ≤ f k) : f j ≤ sm n f := by
  have a := sm_mono (m := j + 1) (n := n) hj h
  have b := sm_nonneg (f := f) (n := j) fun k hk => h k (by omega)
  have c : sm (j + 1) f = sm j f + f j := rfl
  omega
/-- a sum of nothing but noughts, its parts none below nought -/
theorem sm_eq_zero {f : Nat → Int} {n : Nat} (h : ∀ k, k < n → 0 ≤ f k) (e : sm n f = 0) : ∀ k, k < n → f k = 0 := fun k hk => by
  have a := sm_ge hk h
  have b := h k hk
  omega
def one (j : Nat) : Nat → Int := fun k => if k = j then 1 else 0
theorem one_same (j : Nat) : one j j = 1 := if_pos rfl
theorem one_ne {j k : Nat} (h : k ≠ j) : one j k = 0 := if_neg h
/-- what the pieces below m are worth; how many they are -/
def W (c V : Nat → Int) (m : Nat) : Int := sm m fun k => V k * c k
theorem W_succ (c V : Nat → Int) (m : Nat) : W c V (m + 1) = W c V m + V m * c m := rfl
theorem W_add (c V U : Nat → Int) (m : Nat) : W c (fun k => V k + U k) m = W c V m + W c U m := by
  unfold W
  rw [← sm_add]
  exact sm_congr fun k _ => Int.add_mul _ _ _
theorem W_congr {c V U : Nat → Int} {m : Nat} (h : ∀ k, k < m → V k = U k) : W c V m = W c U m := sm_congr fun k hk => by rw [h k hk]
theorem sm_one (c : Nat → Int) (j : Nat) : ∀ m : Nat, sm m (fun k => one j k * c k) = if j < m then c j else 0
  | 0 => rfl
  | m + 1 => by
    show sm m (fun k => one j k * c k) + one j m * c m = _
    rw [sm_one c j m]
    by_cases h : j < m
    · rw [if_pos h, if_pos (by omega), one_ne (by omega), Int.zero_mul]
      omega
    · by_cases e : m = j
      · subst e
        rw [if_neg h, if_pos (by omega), one_same, Int.one_mul]
        omega
      · rw [if_neg h, if_neg (by omega), one_ne e, Int.zero_mul]
        rfl
theorem W_one (c : Nat → Int) (j m : Nat) : W c (one j) m = if j < m then c j else 0 := sm_one c j m
theorem P_one (j m : Nat) : sm m (one j) = if j < m then 1 else 0 := by
  have e := sm_one (fun _ => 1) j m
  rw [← e]
  exact sm_congr fun k _ => (Int.mul_one _).symm
structure Coins (c : Nat → Int) (n : Nat) : Prop where
  pos : 0 < n
  one : c 0 = 1
  up : ∀ k, k + 1 < n → c k < c (k + 1)
theorem Coins.lt {c : Nat → Int} {n : Nat} (C : Coins c n) {i : Nat} : ∀ {j : Nat}, i < j → j < n → c i < c j
  | 0, h, _ => by omega
  | j + 1, h, hj => by
    have a := C.up j hj
    by_cases e : i = j
    · subst e
      exact a
    · have b := C.lt (i := i) (j := j) (by omega) (by omega)
      omega
theorem Coins.le {c : Nat → Int} {n : Nat} (C : Coins c n) {i j : Nat} (h : i ≤ j) (hj : j < n) : c i ≤ c j := by
  by_cases e : i = j
  · rw [e]
    exact Int.le_refl _
  · exact Int.le_of_lt (C.lt (by omega) hj)
theorem Coins.ge {c : Nat → Int} {n : Nat} (C : Coins c n) {k : Nat} (h : k < n) : 1 ≤ c k := by
  have a := C.le (Nat.zero_le k) h
  rw [C.one] at a
  exact a
/-- a way: none below nought -/
abbrev NN (n : Nat) (V : Nat → Int) : Prop := ∀ k, k < n → 0 ≤ V k
theorem W_parts {c V : Nat → Int} {n : Nat} (C : Coins c n) (h : NN n V) : ∀ k, k < n → 0 ≤ V k * c k := fun k hk => Int.mul_nonneg (h k hk) (by have := C.ge hk; omega)
/-- what the shop gives: the pieces of all coins below any coin are worth less than it -/
structure Gr (c : Nat → Int) (n : Nat) (V : Nat → Int) : Prop where
  nn : NN n V
  lt : ∀ k, k < n → W c V k < c k
theorem gr_unique {c V U : Nat → Int} : ∀ {n : Nat}, (∀ k, k < n → 1 ≤ c k) → Gr c n V → Gr c n U → W c V n = W c U n → ∀ k, k < n → V k = U k
  | 0, _, _, _, _, k, hk => by omega
  | n + 1, hc, gV, gU, e, k, hk => by
    have cn := hc n (by omega)
    have wV : 0 ≤ W c V n := sm_nonneg fun k hk => Int.mul_nonneg (gV.nn k (by omega)) (by have := hc k (by omega); omega)
    have wU : 0 ≤ W c U n := sm_nonneg fun k hk => Int.mul_nonneg (gU.nn k (by omega)) (by have := hc k (by omega); omega)
    have lV := gV.lt n (by omega)
    have lU := gU.lt n (by omega)
    rw [W_succ, W_succ] at e
    have en : V n = U n := by
      rcases Int.lt_trichotomy (V n) (U n) with h | h | h
      · have a : (V n + 1) * c n ≤ U n * c n := Int.mul_le_mul_of_nonneg_right h (by omega)
        rw [Int.add_mul, Int.one_mul] at a
        omega
      · exact h
      · have a : (U n + 1) * c n ≤ V n * c n := Int.mul_le_mul_of_nonneg_right h (by omega)
        rw [Int.add_mul, Int.one_mul] at a
        omega
    by_cases h : k = n
    · rw [h]
      exact en
    · rw [en] at e
      exact gr_unique (n := n) (fun k hk => hc k (by omega)) ⟨fun k hk => gV.nn k (by omega), fun k hk => gV.lt k (by omega)⟩ ⟨fun k hk => gU.nn k (by omega), fun k hk => gU.lt k (by omega)⟩ (by omega) k (by omega)
theorem gr_exists {c : Nat → Int} : ∀ {n : Nat} {a : Int}, (∀ k, k < n → 1 ≤ c k) → (0 < n → c 0 = 1) → 0 ≤ a → (n = 0 → a = 0) → ∃ V, Gr c n V ∧ W c V n = a
  | 0, a, _, _, _, h0 => ⟨fun _ => 0, ⟨fun k hk => by omega, fun k hk => by omega⟩, (h0 rfl).symm⟩
  | n + 1, a, hc, h1, ha, _ => by
    have cn := hc n (by omega)
    have r0 : 0 ≤ a % c n := Int.emod_nonneg _ (by omega)
    have r1 : a % c n < c n := Int.emod_lt_of_pos _ (by omega)
    have q0 : 0 ≤ a / c n := Int.ediv_nonneg ha (by omega)
    obtain ⟨V, g, e⟩ := gr_exists (c := c) (n := n) (a := a % c n) (fun k hk => hc k (by omega)) (fun _ => h1 (by omega)) r0 (fun hn => by
      subst hn
      rw [h1 (by omega)]
      exact Int.emod_one a)
    have same : ∀ m, m ≤ n → W c (fun k => if k = n then a / c n else V k) m = W c V m := fun m hm => W_congr fun k hk => if_neg (by omega)
    refine ⟨fun k => if k = n then a / c n else V k, ⟨fun k hk => ?_, fun k hk => ?_⟩, ?_⟩
    · show 0 ≤ if k = n then a / c n else V k
      by_cases h : k = n
      · rw [if_pos h]
        exact q0
      · rw [if_neg h]
        exact g.nn k (by omega)
    · rw [same k (by omega)]
      by_cases h : k = n
      · rw [h, e]
        exact r1
      · exact g.lt k (by omega)
    · rw [W_succ, same n (Nat.le_refl _), e]
      show a % c n + (if n = n then a / c n else V n) * c n = a
      rw [if_pos rfl]
      have := Int.mul_ediv_add_emod a (c n)
      rw [Int.mul_comm]
      omega
theorem exists_min {α : Type} (p : α → Prop) (f : α → Nat) (h : ∃ a, p a) : ∃ a, p a ∧ ∀ b, p b → f a ≤ f b := by
  obtain ⟨a, ha⟩ := h
  have key : ∀ m : Nat, ∀ a, p a → f a = m → ∃ a, p a ∧ ∀ b, p b → f a ≤ f b := by
    intro m
    induction m using Nat.strongRecOn with
    | _ m ih =>
      intro a ha e
      by_cases h : ∃ b, p b ∧ f b < m
      · obtain ⟨b, hb, lb⟩ := h
        exact ih (f b) lb b hb rfl
      · refine ⟨a, ha, fun b hb => ?_⟩
        rw [e]
        exact Nat.not_lt.mp fun l => h ⟨b, hb, l⟩
  exact key _ a ha rfl
/-- the greatest place with a piece -/
theorem exists_top {V : Nat → Int} : ∀ {n : Nat}, NN n V → (∃ k, k < n ∧ 0 < V k) → ∃ i, i < n ∧ 0 < V i ∧ ∀ k, i < k → k < n → V k = 0
  | 0, _, ⟨k, hk, _⟩ => by omega
  | n + 1, h, ⟨k, hk, pk⟩ => by
    by_cases hn : 0 < V n
    · exact ⟨n, by omega, hn, fun k h1 h2 => by omega⟩
    · have hk' : k ≠ n := fun e => hn (by rw [← e]; exact pk)
      obtain ⟨i, a, b, d⟩ := exists_top (n := n) (fun k hk => h k (by omega)) ⟨k, by omega, pk⟩
      refine ⟨i, by omega, b, fun k h1 h2 => ?_⟩
      by_cases e : k = n
      · have := h n (by omega)
        rw [e]
        omega
      · exact d k h1 (by omega)
/-- a way that is worth something has a piece -/
theorem exists_piece {c V : Nat → Int} {n : Nat} (h : NN n V) (hw : W c V n ≠ 0) : ∃ k, k < n ∧ 0 < V k := by
  by_cases e : ∃ k, k < n ∧ 0 < V k
  · exact e
  · refine absurd (sm_zero fun k hk => ?_) hw
    have a := h k hk
    have b : ¬ 0 < V k := fun z => e ⟨k, hk, z⟩
    have z : V k = 0 := by omega
    rw [z, Int.zero_mul]
/-- one piece less of a coin that there is -/
theorem nn_less {V : Nat → Int} {n j : Nat} (h : NN n V) (hj : 0 < V j) : NN n (fun k => V k - one j k) := fun k hk => by
  show 0 ≤ V k - one j k
  by_cases e : k = j
  · subst e
    rw [one_same]
    omega
  · rw [one_ne e]
    have := h k hk
    omega
theorem W_sub (c V U : Nat → Int) (m : Nat) : W c (fun k => V k - U k) m = W c V m - W c U m := by
  have e := W_add c (fun k => V k - U k) U m
  have e2 : W c (fun k => V k - U k + U k) m = W c V m := W_congr fun k _ => Int.sub_add_cancel _ _
  omega
theorem P_sub (V U : Nat → Int) (m : Nat) : sm m (fun k => V k - U k) = sm m V - sm m U := by
  have e := sm_add (fun k => V k - U k) U m
  have e2 : sm m (fun k => V k - U k + U k) = sm m V := sm_congr fun k _ => Int.sub_add_cancel _ _
  omega
theorem W_less (c V : Nat → Int) {j m : Nat} (hj : j < m) : W c (fun k => V k - one j k) m = W c V m - c j := by rw [W_sub, W_one, if_pos hj]
theorem P_less (V : Nat → Int) {j m : Nat} (hj : j < m) : sm m (fun k => V k - one j k) = sm m V - 1 := by rw [P_sub, P_one, if_pos hj]
theorem W_more (c V : Nat → Int) {j m : Nat} (hj : j < m) : W c (fun k => V k + one j k) m = W c V m + c j := by rw [W_add, W_one, if_pos hj]
theorem P_more (V : Nat → Int) {j m : Nat} (hj : j < m) : sm m (fun k => V k + one j k) = sm m V + 1 := by rw [sm_add, P_one, if_pos hj]
theorem gr_less {c V : Nat → Int} {n j : Nat} (hc : ∀ k, k < n → 1 ≤ c k) (g : Gr c n V) (hj : 0 < V j) : Gr c n (fun k => V k - one j k) := ⟨nn_less g.nn hj, fun k hk => by
  rw [W_sub, W_one]
  have a := g.lt k hk
  by_cases e : j < k
  · rw [if_pos e]
    have := hc j (by omega)
    omega
  · rw [if_neg e]
    omega⟩
theorem nn_more {V : Nat → Int} {n j : Nat} (h : NN n V) : NN n (fun k => V k + one j k) := fun k hk => by
  show 0 ≤ V k + one j k
  have a := h k hk
  by_cases e : k = j
  · subst e
    rw [one_same]
    omega
  · rw [one_ne e]
    omega
end Cj

namespace Cj
/-- the pieces of B below j left out, one piece more at j -/
def tr (j : Nat) (B : Nat → Int) : Nat → Int := fun k => if k < j then 0 else B k + one j k
theorem zero_of_part {V c : Nat → Int} {n k : Nat} {x : Int} (h : NN n V) (hc : ∀ k, k < n → 1 ≤ c k) (hk : k < n) (hx : W c V n < x) (hck : x ≤ c k) : V k = 0 := by
  have a := sm_ge (f := fun k => V k * c k) hk fun l hl => Int.mul_nonneg (h l hl) (by have := hc l hl; omega)
  have a' : V k * c k ≤ W c V n := a
  have b := h k hk
  by_cases e : V k = 0
  · exact e
  · have m : 1 * c k ≤ V k * c k := Int.mul_le_mul_of_nonneg_right (by omega) (by have := hc k hk; omega)
    omega
/-- Pearson: the least wrong amount is the worth of a trial, and that trial has as few pieces as any way of it -/
theorem pearson {c : Nat → Int} {n : Nat} (C : Coins c n) {w : Int} {V0 G : Nat → Int} (hV : NN n V0) (hVw : W c V0 n = w) (hG : Gr c n G) (hGw : W c G n = w) (hb : sm n V0 < sm n G)
    (hmin : ∀ U G', NN n U → Gr c n G' → W c U n = W c G' n → W c U n < w → sm n G' ≤ sm n U) :
    ∃ i j B, j ≤ i ∧ i + 1 < n ∧ Gr c n B ∧ W c B n = c (i + 1) - 1 ∧ W c (tr j B) n = w ∧ ∀ U, NN n U → W c U n = w → sm n (tr j B) ≤ sm n U := by
  have hc : ∀ k, k < n → 1 ≤ c k := fun k hk => C.ge hk
  -- the amount is not nought
  have hw0 : w ≠ 0 := fun e => by
    have z : sm n G = 0 := sm_zero fun k hk => by
      have p := sm_eq_zero (f := fun k => G k * c k) (fun k hk => W_parts C hG.nn k hk) (show W c G n = 0 by omega) k hk
      have p' : G k * c k = 0 := p
      have := hc k hk
      rcases Int.mul_eq_zero.mp p' with q | q
      · exact q
      · omega
    have := sm_nonneg (f := V0) (n := n) hV
    omega
  -- the ways with the fewest pieces
  obtain ⟨Vm, ⟨m1, m2⟩, m3⟩ := exists_min (fun V => NN n V ∧ W c V n = w) (fun V => (sm n V).toNat) ⟨V0, hV, hVw⟩
  have optm : ∀ U, NN n U → W c U n = w → sm n Vm ≤ sm n U := fun U h1 h2 => by
    have a := m3 U ⟨h1, h2⟩
    have b := sm_nonneg (f := U) (n := n) h1
    have b2 := sm_nonneg (f := Vm) (n := n) m1
    have a' : (sm n Vm).toNat ≤ (sm n U).toNat := a
    omega
  -- the least coin in any of them
  obtain ⟨j, ⟨hj, V1, ⟨p1, p2, p3⟩, pj⟩, jmin⟩ := exists_min (fun j => j < n ∧ ∃ V, (NN n V ∧ W c V n = w ∧ ∀ U, NN n U → W c U n = w → sm n V ≤ sm n U) ∧ 0 < V j) (fun j => j)
    (by
      obtain ⟨k, hk, pk⟩ := exists_piece m1 (by rw [m2]; exact hw0)
      exact ⟨k, hk, Vm, ⟨m1, m2, optm⟩, pk⟩)
  have below : ∀ V, NN n V → W c V n = w → (∀ U, NN n U → W c U n = w → sm n V ≤ sm n U) → ∀ k, k < j → V k = 0 := fun V h1 h2 h3 k hk => by
    have a := h1 k (by omega)
    by_cases e : 0 < V k
    · have := jmin k ⟨by omega, V, ⟨h1, h2, h3⟩, e⟩
      omega
    · omega
  have cj := hc j hj
  have l1 := nn_less p1 pj
  have w1 : W c (fun k => V1 k - one j k) n = w - c j := by rw [W_less c V1 hj, p2]
  have wj : 0 ≤ w - c j := by
    rw [← w1]
    exact sm_nonneg fun k hk => W_parts C l1 k hk
  obtain ⟨A, gA, wA⟩ := gr_exists hc (fun _ => C.one) wj (fun e => by have := C.pos; omega)
  have sA : sm n A ≤ sm n V1 - 1 := by
    rw [← P_less V1 hj]
    exact hmin _ A l1 gA (by rw [w1, wA]) (by rw [w1]; omega)
  have nV : NN n (fun k => A k + one j k) := nn_more gA.nn
  have wV : W c (fun k => A k + one j k) n = w := by
    rw [W_more c A hj, wA]
    omega
  have sV : sm n (fun k => A k + one j k) = sm n A + 1 := P_more A hj
  have oV : ∀ U, NN n U → W c U n = w → sm n (fun k => A k + one j k) ≤ sm n U := fun U h1 h2 => by
    have := p3 U h1 h2
    omega
  have A0 : ∀ k, k < j → A k = 0 := fun k hk => by
    have z : A k + one j k = 0 := below _ nV wV oV k hk
    rw [one_ne (by omega)] at z
    omega
  have Aj : 0 ≤ A j := gA.nn j hj
  have Vj : 0 < A j + one j j := by
    rw [one_same]
    omega
  obtain ⟨i, hi, pi, above⟩ := exists_top nV ⟨j, hj, Vj⟩
  have ji : j ≤ i := by
    by_cases e : j ≤ i
    · exact e
    · have z : A j + one j j = 0 := above j (by omega) hj
      omega
  have Aab : ∀ k, i < k → k < n → A k = 0 := fun k h1 h2 => by
    have z : A k + one j k = 0 := above k h1 h2
    rw [one_ne (by omega)] at z
    omega
  have partsV := W_parts C nV
  -- the coin above the greatest one in it goes into the amount
  have next : i + 1 < n ∧ c (i + 1) ≤ w := by
    by_cases h : i + 1 < n ∧ c (i + 1) ≤ w
    · exact h
    · exfalso
      have big : ∀ k, i < k → k < n → w < c k := fun k h1 h2 => by
        have a := C.le (i := i + 1) (j := k) h1 h2
        have b : ¬ c (i + 1) ≤ w := fun z => h ⟨by omega, z⟩
        omega
      have G0 : ∀ k, i < k → k < n → G k = 0 := fun k h1 h2 => zero_of_part hG.nn hc h2 (show W c G n < w + 1 by omega) (by have := big k h1 h2; omega)
      have wi : c i ≤ w := by
        have a := sm_ge (f := fun k => (A k + one j k) * c k) hi partsV
        have a' : (A i + one j i) * c i ≤ W c (fun k => A k + one j k) n := a
        have pi' : 0 < A i + one j i := pi
        have m : 1 * c i ≤ (A i + one j i) * c i := Int.mul_le_mul_of_nonneg_right (by omega) (by have := hc i hi; omega)
        omega
      have Gi : 0 < G i := by
        have a := hG.nn i hi
        by_cases e : 0 < G i
        · exact e
        · have z : G i = 0 := by omega
          have t : W c G n = W c G (i + 1) := sm_above (m := i + 1) (by omega) fun k h1 h2 => by rw [G0 k (by omega) h2, Int.zero_mul]
          rw [W_succ, z, Int.zero_mul] at t
          have := hG.lt i hi
          omega
      have a := hmin (fun k => A k + one j k - one i k) (fun k => G k - one i k) (nn_less nV pi) (gr_less hc hG Gi) (by rw [W_less c _ hi, W_less c _ hi, wV, hGw]) (by rw [W_less c _ hi, wV]; have := hc i hi; omega)
      rw [P_less _ hi, P_less _ hi] at a
      have := oV V0 hV hVw
      omega
  obtain ⟨hi1, ci1⟩ := next
  have WA : W c A n = W c A (i + 1) := sm_above (m := i + 1) (by omega) fun k h1 h2 => by rw [Aab k (by omega) h2, Int.zero_mul]
  have lA := gA.lt (i + 1) hi1
  -- what lies below a coin from j to i is worth no more than it
  have part : ∀ k, j < k → k ≤ i → W c (fun k => A k + one j k) k ≤ c k := fun k h1 h2 => by
    by_cases h : W c (fun k => A k + one j k) k ≤ c k
    · exact h
    · exfalso
      have kn : k < n := by omega
      have ck := hc k kn
      have u1 : W c (fun k => A k + one j k) k = W c A k + c j := W_more c A h1
      have u2 := gA.lt k kn
      have uw : W c (fun k => A k + one j k) k < w := by
        have a := sm_mono (f := fun k => (A k + one j k) * c k) (m := i + 1) (n := n) (by omega) partsV
        have b := sm_mono (f := fun k => (A k + one j k) * c k) (m := k) (n := i) h2 fun l hl => partsV l (by omega)
        have e : sm (i + 1) (fun k => (A k + one j k) * c k) = sm i (fun k => (A k + one j k) * c k) + (A i + one j i) * c i := rfl
        have pi' : 0 < A i + one j i := pi
        have m : 1 * c i ≤ (A i + one j i) * c i := Int.mul_le_mul_of_nonneg_right (by omega) (by have := hc i hi; omega)
        have := hc i hi
        have e2 : W c (fun k => A k + one j k) n = sm n (fun k => (A k + one j k) * c k) := rfl
        have e3 : W c (fun k => A k + one j k) k = sm k (fun k => (A k + one j k) * c k) := rfl
        omega
      -- the part below k, the part from k on
      have nU : NN n (fun l => if l < k then A l + one j l else 0) := fun l hl => by
        show 0 ≤ if l < k then A l + one j l else 0
        by_cases e : l < k
        · rw [if_pos e]
          exact nV l hl
        · rw [if_neg e]
          exact Int.le_refl _
      have nY : NN n (fun l => if l < k then 0 else A l + one j l) := fun l hl => by
        show 0 ≤ if l < k then 0 else A l + one j l
        by_cases e : l < k
        · rw [if_pos e]
          exact Int.le_refl _
        · rw [if_neg e]
          exact nV l hl
      have UY : ∀ l, (A l + one j l) = (if l < k then A l + one j l else 0) + (if l < k then 0 else A l + one j l) := fun l => by
        by_cases e : l < k
        · rw [if_pos e, if_pos e]
          omega
        · rw [if_neg e, if_neg e]
          omega
      have wU : W c (fun l => if l < k then A l + one j l else 0) n = W c (fun k => A k + one j k) k := by
        have e1 : W c (fun l => if l < k then A l + one j l else 0) n = W c (fun l => if l < k then A l + one j l else 0) k := sm_above (m := k) (by omega) fun l h1 h2 => by
          show (if l < k then A l + one j l else 0) * c l = 0
          rw [if_neg (by omega), Int.zero_mul]
        rw [e1]
        exact W_congr fun l hl => if_pos hl
      have sU : sm n (fun l => if l < k then A l + one j l else 0) = sm k (fun k => A k + one j k) := by
        have e1 : sm n (fun l => if l < k then A l + one j l else 0) = sm k (fun l => if l < k then A l + one j l else 0) := sm_above (m := k) (by omega) fun l h1 h2 => if_neg (by omega)
        rw [e1]
        exact sm_congr fun l hl => if_pos hl
      have wY : W c (fun l => if l < k then 0 else A l + one j l) n = w - W c (fun k => A k + one j k) k := by
        have a := W_add c (fun l => if l < k then A l + one j l else 0) (fun l => if l < k then 0 else A l + one j l) n
        have b : W c (fun l => (if l < k then A l + one j l else 0) + (if l < k then 0 else A l + one j l)) n = w := by
          rw [← wV]
          exact W_congr fun l _ => (UY l).symm
        rw [wU] at a
        omega
      have sY : sm n (fun l => if l < k then 0 else A l + one j l) = sm n (fun k => A k + one j k) - sm k (fun k => A k + one j k) := by
        have a := sm_add (fun l => if l < k then A l + one j l else 0) (fun l => if l < k then 0 else A l + one j l) n
        have b : sm n (fun l => (if l < k then A l + one j l else 0) + (if l < k then 0 else A l + one j l)) = sm n (fun k => A k + one j k) := sm_congr fun l _ => (UY l).symm
        rw [sU] at a
        omega
      have u0 : 0 ≤ W c (fun k => A k + one j k) k := by omega
      obtain ⟨Gu, gG, wG⟩ := gr_exists hc (fun _ => C.one) u0 (fun e => by have := C.pos; omega)
      have sG := hmin _ Gu nU gG (by rw [wU, wG]) (by rw [wU]; exact uw)
      rw [sU] at sG
      have nX : NN n (fun l => Gu l + if l < k then 0 else A l + one j l) := fun l hl => by
        have a := gG.nn l hl
        have b := nY l hl
        show 0 ≤ Gu l + if l < k then 0 else A l + one j l
        have b' : 0 ≤ if l < k then 0 else A l + one j l := b
        omega
      have wX : W c (fun l => Gu l + if l < k then 0 else A l + one j l) n = w := by
        rw [W_add c Gu, wG, wY]
        omega
      have sX : sm n (fun l => Gu l + if l < k then 0 else A l + one j l) = sm n Gu + (sm n (fun k => A k + one j k) - sm k (fun k => A k + one j k)) := by rw [sm_add Gu, sY]
      have oX : ∀ U, NN n U → W c U n = w → sm n (fun l => Gu l + if l < k then 0 else A l + one j l) ≤ sm n U := fun U h1 h2 => by
        have := oV U h1 h2
        omega
      have G0 : ∀ l, l < j → Gu l = 0 := fun l hl => by
        have z : (Gu l + if l < k then 0 else A l + one j l) = 0 := below _ nX wX oX l hl
        rw [if_pos (by omega)] at z
        omega
      obtain ⟨t, ht, pt, tab⟩ := exists_top gG.nn (exists_piece gG.nn (by rw [wG]; omega))
      have kt : k ≤ t := by
        by_cases e : k ≤ t
        · exact e
        · have z : W c Gu n = W c Gu k := sm_above (m := k) (by omega) fun l h1 h2 => by rw [tab l (by omega) h2, Int.zero_mul]
          have := gG.lt k kn
          omega
      have ct := C.le kt ht
      have n1 := nn_less gG.nn pt
      have w1 : W c (fun l => Gu l - one t l) n = W c (fun k => A k + one j k) k - c t := by rw [W_less c Gu ht, wG]
      have z1 : ∀ l, l < n → Gu l - one t l = 0 := fun l hl => by
        by_cases e : l < j
        · rw [G0 l e, one_ne (by omega)]
          omega
        · exact zero_of_part n1 hc hl (show W c (fun l => Gu l - one t l) n < c j by rw [w1]; omega) (C.le (by omega) hl)
      have s1 : sm n (fun l => Gu l - one t l) = 0 := sm_zero z1
      rw [P_less Gu ht] at s1
      have v1 := oX
      have v2 := oV _ nX wX
      rw [sX] at v2
      have v3 : sm k (fun k => A k + one j k) = sm k A + 1 := P_more A h1
      have v4 := sm_nonneg (f := A) (n := k) fun l hl => gA.nn l (by omega)
      have v5 : sm k A = 0 := by omega
      have v6 : W c A k = 0 := sm_zero fun l hl => by rw [sm_eq_zero (f := A) (fun l hl => gA.nn l (by omega)) v5 l hl, Int.zero_mul]
      have := C.lt h1 kn
      omega
  -- the first way of one less than the coin at i + 1
  have r0 : 0 ≤ c (i + 1) - 1 - (w - c j) := by omega
  obtain ⟨R, gR, wR⟩ := gr_exists (c := c) (n := j) (fun k hk => hc k (by omega)) (fun _ => C.one) r0 (fun e => by
    subst e
    have := C.one
    omega)
  have R1 : ∀ m, m ≤ j → W c (fun k => if k < j then R k else 0) m = W c R m := fun m hm => W_congr fun k hk => if_pos (by omega)
  have R2 : ∀ m, j ≤ m → W c (fun k => if k < j then R k else 0) m = c (i + 1) - 1 - (w - c j) := fun m hm => by
    have e : W c (fun k => if k < j then R k else 0) m = W c (fun k => if k < j then R k else 0) j := sm_above hm fun k h1 h2 => by
      show (if k < j then R k else 0) * c k = 0
      rw [if_neg (by omega), Int.zero_mul]
    rw [e, R1 j (Nat.le_refl _), wR]
  have A1 : ∀ m, m ≤ j → W c A m = 0 := fun m hm => sm_zero fun k hk => by rw [A0 k (by omega), Int.zero_mul]
  have eT : ∀ k, k < n → tr j (fun k => (if k < j then R k else 0) + A k) k = A k + one j k := by
    intro k hk
    show (if k < j then 0 else (if k < j then R k else 0) + A k + one j k) = A k + one j k
    by_cases e : k < j
    · rw [if_pos e, A0 k e, one_ne (by omega)]
      rfl
    · rw [if_neg e, if_neg e]
      omega
  refine ⟨i, j, fun k => (if k < j then R k else 0) + A k, ji, hi1, ⟨fun k hk => ?_, fun k hk => ?_⟩, ?_, ?_, ?_⟩
  · show 0 ≤ (if k < j then R k else 0) + A k
    have a := gA.nn k hk
    by_cases e : k < j
    · rw [if_pos e]
      have := gR.nn k e
      omega
    · rw [if_neg e]
      omega
  · rw [W_add]
    by_cases e : k < j
    · rw [R1 k (by omega), A1 k (by omega)]
      have := gR.lt k e
      omega
    · rw [R2 k (by omega)]
      by_cases e2 : k = j
      · subst e2
        rw [A1 k (Nat.le_refl _)]
        omega
      · by_cases e3 : k ≤ i
        · have a := part k (by omega) e3
          rw [W_more c A (by omega)] at a
          omega
        · have t : W c A n = W c A k := sm_above (m := k) (by omega) fun l h1 h2 => by rw [Aab l (by omega) h2, Int.zero_mul]
          have := C.le (i := i + 1) (j := k) (by omega) hk
          omega
  · rw [W_add, R2 n (by omega), wA]
    omega
  · rw [W_congr eT]
    exact wV
  · intro U h1 h2
    rw [sm_congr eT]
    exact oV U h1 h2
end Cj

/-! # Lists as functions of the place -/
namespace Cj
/-- what stands at a place of a list -/
abbrev at0 (l : List Int) : Nat → Int := fun k => l.getD k 0
theorem at0_of {l : List Int} {k : Nat} {x : Int} (h : l[k]? = some x) : at0 l k = x := by
  show l.getD k 0 = x
  rw [List.getD_eq_getElem?_getD, h]
  rfl
theorem at0_get {l : List Int} {k : Nat} (h : k < l.length) : l[k]? = some (at0 l k) := by
  rw [List.getElem?_eq_getElem h, at0_of (List.getElem?_eq_getElem h)]
theorem at0_mem {l : List Int} {k : Nat} (h : k < l.length) : at0 l k ∈ l := List.mem_of_getElem? (at0_get h)
theorem Row.coins {cs : List Int} (R : Row cs) : Coins (at0 cs) cs.length where
  pos := R.ne
  one := at0_of R.hd
  up := fun k hk => R.up k _ _ (at0_get (by omega)) (at0_get hk)
theorem dot_W {cs ws : List Int} (hl : ws.length = cs.length) : ∀ k, k ≤ cs.length → dot (cs.take k) (ws.take k) = W (at0 cs) (at0 ws) k
  | 0, _ => by
    rw [List.take_zero, List.take_zero]
    rfl
  | k + 1, h => by
    rw [dot_take (at0_get (l := cs) (by omega)) (at0_get (l := ws) (by omega)), dot_W hl k (by omega), W_succ, Int.mul_comm]
theorem dot_all {cs ws : List Int} (hl : ws.length = cs.length) : dot cs ws = W (at0 cs) (at0 ws) cs.length := by
  have e := dot_W hl cs.length (Nat.le_refl _)
  rw [List.take_of_length_le (Nat.le_refl _), List.take_of_length_le (by omega)] at e
  exact e
theorem sum_sm {ws : List Int} : ∀ k, k ≤ ws.length → (ws.take k).sum = sm k (at0 ws)
  | 0, _ => by
    rw [List.take_zero]
    rfl
  | k + 1, h => by
    rw [take_at (at0_get (l := ws) (by omega)), List.sum_append, sum_sm k (by omega)]
    show _ + (at0 ws k + 0) = sm k (at0 ws) + at0 ws k
    omega
theorem sum_all (ws : List Int) : ws.sum = sm ws.length (at0 ws) := by
  have e := sum_sm (ws := ws) ws.length (Nat.le_refl _)
  rw [List.take_of_length_le (Nat.le_refl _)] at e
  exact e
theorem nn_list {ws : List Int} (h : ∀ v ∈ ws, 0 ≤ v) : NN ws.length (at0 ws) := fun k hk => h _ (at0_mem hk)
/-- a function as a list -/
def ofF (n : Nat) (U : Nat → Int) : List Int := (List.range n).map U
theorem ofF_len (n : Nat) (U : Nat → Int) : (ofF n U).length = n := by
  unfold ofF
  rw [List.length_map, List.length_range]
theorem ofF_at {n k : Nat} (U : Nat → Int) (h : k < n) : at0 (ofF n U) k = U k := at0_of (by
  unfold ofF
  rw [List.getElem?_map, List.getElem?_range h]
  rfl)
theorem ofF_nn {n : Nat} {U : Nat → Int} (h : NN n U) : ∀ v ∈ ofF n U, 0 ≤ v := fun v hv => by
  unfold ofF at hv
  obtain ⟨k, hk, e⟩ := List.mem_map.mp hv
  rw [← e]
  exact h k (List.mem_range.mp hk)
theorem ofF_dot (cs : List Int) (U : Nat → Int) : dot cs (ofF cs.length U) = W (at0 cs) U cs.length := by
  rw [dot_all (ofF_len _ _)]
  exact W_congr fun k hk => ofF_at U hk
theorem ofF_sum (n : Nat) (U : Nat → Int) : (ofF n U).sum = sm n U := by
  rw [sum_all, ofF_len]
  exact sm_congr fun k hk => ofF_at U hk
/-- the first way is what the shop gives -/
theorem rs_all {cs : List Int} (R : Row cs) (a : Int) : rs cs a = 0 := by
  have e := drop_at R.hd
  rw [List.drop_zero] at e
  rw [e]
  exact Int.emod_one _
theorem dot_split {cs ws : List Int} : ∀ k, dot cs ws = dot (cs.take k) (ws.take k) + dot (cs.drop k) (ws.drop k)
  | 0 => by
    rw [List.take_zero, List.take_zero, List.drop_zero, List.drop_zero]
    show _ = 0 + _
    omega
  | k + 1 => by
    cases cs with
    | nil => rfl
    | cons c cs =>
      cases ws with
      | nil =>
        have z : ∀ l : List Int, dot l [] = 0 := fun l => by cases l <;> rfl
        rw [List.take_nil, List.drop_nil, z, z, z]
        rfl
      | cons v ws =>
        have ih := dot_split (cs := cs) (ws := ws) k
        show c * v + dot cs ws = c * v + dot (cs.take k) (ws.take k) + dot (cs.drop k) (ws.drop k)
        omega
theorem fw_worth {cs : List Int} (R : Row cs) (a : Int) : dot cs (fw cs a) = a := by
  have e := dot_fw cs a
  rw [rs_all R] at e
  omega
theorem fw_gr {cs : List Int} (R : Row cs) {a : Int} (h0 : 0 ≤ a) : Gr (at0 cs) cs.length (at0 (fw cs a)) where
  nn := by
    have n := nn_list (ws := fw cs a) fun v hv => (fw_mem R.posM h0 v hv).1
    rw [fw_length] at n
    exact n
  lt := fun k hk => by
    have l := fw_length cs a
    rw [← dot_W l k (by omega)]
    have s := dot_split (cs := cs) (ws := fw cs a) k
    have f := dot_fw (cs.drop k) a
    rw [← fw_drop] at f
    have w := fw_worth R a
    have r := rs_lt a (at0_get hk) (R.pos k _ (at0_get hk))
    omega
theorem fw_W {cs : List Int} (R : Row cs) (a : Int) : W (at0 cs) (at0 (fw cs a)) cs.length = a := by
  rw [← dot_all (fw_length _ _)]
  exact fw_worth R a
theorem fw_sm (cs : List Int) (a : Int) : (fw cs a).sum = sm cs.length (at0 (fw cs a)) := by rw [sum_all, fw_length]
/-- another such way is the first way -/
theorem fw_unique {cs : List Int} (R : Row cs) {V : Nat → Int} (g : Gr (at0 cs) cs.length V) : ∀ k, k < cs.length → V k = at0 (fw cs (W (at0 cs) V cs.length)) k := by
  have h0 : 0 ≤ W (at0 cs) V cs.length := sm_nonneg fun k hk => W_parts R.coins g.nn k hk
  exact gr_unique (fun k hk => R.coins.ge hk) g (fw_gr R h0) (fw_W R _).symm
theorem fw_unique_sum {cs : List Int} (R : Row cs) {V : Nat → Int} (g : Gr (at0 cs) cs.length V) : sm cs.length V = (fw cs (W (at0 cs) V cs.length)).sum := by
  rw [fw_sm]
  exact sm_congr (fw_unique R g)
/-- a trial, place by place -/
theorem triW_at {cs : List Int} {hi lo k : Nat} (hl : lo < cs.length) (hk : k < cs.length) : at0 (triW cs hi lo) k = tr lo (at0 (fw cs (cs.getD hi 0 - 1))) k := by
  have l := fw_length cs (cs.getD hi 0 - 1)
  unfold tr triW
  by_cases h1 : k < lo
  · rw [if_pos h1]
    refine at0_of ?_
    rw [List.getElem?_append_left (by rw [List.length_replicate]; exact h1), List.getElem?_replicate, if_pos h1]
  · rw [if_neg h1]
    refine at0_of ?_
    rw [List.getElem?_append_right (by rw [List.length_replicate]; omega), List.length_replicate]
    by_cases h2 : k = lo
    · subst h2
      rw [Nat.sub_self, one_same]
      rfl
    · have e : k - lo = (k - lo - 1) + 1 := by omega
      rw [e, List.getElem?_cons_succ, List.getElem?_drop, one_ne h2, show lo + 1 + (k - lo - 1) = k by omega, at0_get (by omega)]
      congr 1
      omega
/-- where any amount is wrong: a trial that is better, of the least wrong worth and as few pieces as any way of it has -/
theorem trials_complete {cs : List Int} (R : Row cs) {ws : List Int} (hl : ws.length = cs.length) (hn : ∀ v ∈ ws, 0 ≤ v) (hb : ws.sum < (fw cs (dot cs ws)).sum) :
    ∃ hi lo, lo < hi ∧ hi < cs.length ∧ better cs (tri cs hi lo) = true ∧ (tri cs hi lo).1 ≤ dot cs ws ∧
      (∀ us : List Int, us.length = cs.length → (∀ v ∈ us, 0 ≤ v) → dot cs us = (tri cs hi lo).1 → (tri cs hi lo).2.sum ≤ us.sum) ∧
      (∀ us : List Int, us.length = cs.length → (∀ v ∈ us, 0 ≤ v) → dot cs us < (tri cs hi lo).1 → (fw cs (dot cs us)).sum ≤ us.sum) := by
  have C := R.coins
  have dot0 : ∀ us : List Int, us.length = cs.length → (∀ v ∈ us, 0 ≤ v) → 0 ≤ dot cs us := fun us h1 h2 => by
    rw [dot_all h1]
    have n := nn_list h2
    rw [h1] at n
    exact sm_nonneg fun k hk => W_parts C n k hk
  obtain ⟨vs, ⟨v1, v2, v3⟩, vmin⟩ := exists_min (fun us : List Int => us.length = cs.length ∧ (∀ v ∈ us, 0 ≤ v) ∧ us.sum < (fw cs (dot cs us)).sum) (fun us => (dot cs us).toNat) ⟨ws, hl, hn, hb⟩
  have least : ∀ us : List Int, us.length = cs.length → (∀ v ∈ us, 0 ≤ v) → dot cs us < dot cs vs → (fw cs (dot cs us)).sum ≤ us.sum := fun us h1 h2 h3 => by
    by_cases h : us.sum < (fw cs (dot cs us)).sum
    · have a : (dot cs vs).toNat ≤ (dot cs us).toNat := vmin us ⟨h1, h2, h⟩
      have b := dot0 us h1 h2
      omega
    · omega
  have nv := nn_list v2
  rw [v1] at nv
  have dv := dot_all v1
  have sv := sum_all vs
  rw [v1] at sv
  have d0 := dot0 vs v1 v2
  obtain ⟨i, j, B, ji, i1, gB, wB, wT, oT⟩ := pearson C (w := dot cs vs) (V0 := at0 vs) (G := at0 (fw cs (dot cs vs))) nv dv.symm (fw_gr R d0) (fw_W R _) (by rw [← sv, ← fw_sm]; exact v3)
    (fun U G' nU gG e lt => by
      have a := least (ofF cs.length U) (ofF_len _ _) (ofF_nn nU) (by rw [ofF_dot]; exact lt)
      rw [ofF_dot, ofF_sum, e, ← fw_unique_sum R gG] at a
      exact a)
  have uB := fw_unique R gB
  rw [wB] at uB
  have jl : j < cs.length := by omega
  have eT : ∀ k, k < cs.length → tr j B k = at0 (triW cs (i + 1) j) k := fun k hk => by
    rw [triW_at jl hk]
    unfold tr
    by_cases h : k < j
    · rw [if_pos h, if_pos h]
    · rw [if_neg h, if_neg h, uB k hk]
  have w1 : (tri cs (i + 1) j).1 = dot cs vs := by
    show dot cs (triW cs (i + 1) j) = _
    rw [dot_all (triW_length jl), ← W_congr eT, wT]
  have s1 : (tri cs (i + 1) j).2.sum = sm cs.length (tr j B) := by
    show (triW cs (i + 1) j).sum = _
    rw [sum_all, triW_length jl]
    exact (sm_congr eT).symm
  have few : ∀ us : List Int, us.length = cs.length → (∀ v ∈ us, 0 ≤ v) → dot cs us = (tri cs (i + 1) j).1 → (tri cs (i + 1) j).2.sum ≤ us.sum := fun us h1 h2 h3 => by
    have n := nn_list h2
    rw [h1] at n
    have a := oT (at0 us) n (by rw [← dot_all h1, h3, w1])
    rw [s1, sum_all us, h1]
    exact a
  refine ⟨i + 1, j, by omega, i1, ?_, ?_, few, ?_⟩
  · have a := few vs v1 v2 w1.symm
    unfold better
    rw [w1]
    exact decide_eq_true (by omega)
  · rw [w1]
    have a := dot0 ws hl hn
    have b : (dot cs vs).toNat ≤ (dot cs ws).toNat := vmin ws ⟨hl, hn, hb⟩
    omega
  · rw [w1]
    exact least
/-! # The verdict: the first of the best trials -/
theorem lessR_iff (p b : Int × List Int) : lessR p b = true ↔ p.1 < b.1 ∨ (p.1 = b.1 ∧ p.2.sum < b.2.sum) := by
  unfold lessR
  by_cases h : p.1 = b.1
  · rw [if_pos h]
    by_cases h2 : p.2.sum = b.2.sum
    · rw [if_pos h2]
      constructor
      · intro z
        cases z
      · intro z
        omega
    · rw [if_neg h2, decide_eq_true_iff]
      omega
  · rw [if_neg h, decide_eq_true_iff]
    omega
/-- what holds of the best so far -/
def BestOf (cs : List Int) (l : List (Int × List Int)) : Option (Int × List Int) → Prop
  | none => ∀ x ∈ l, better cs x = false
  | some p => p ∈ l ∧ better cs p = true ∧ ∀ x ∈ l, better cs x = true → ¬ lessR x p = true
theorem best_step {cs : List Int} {l : List (Int × List Int)} {o : Option (Int × List Int)} (x : Int × List Int) (h : BestOf cs l o) : BestOf cs (l ++ [x]) (jstep cs o x) := by
  unfold jstep
  by_cases hb : better cs x = true
  · rw [if_pos hb]
    cases o with
    | none =>
      refine ⟨List.mem_append_right _ (List.mem_singleton.mpr rfl), hb, fun y hy hby => ?_⟩
      rcases List.mem_append.mp hy with hy | hy
      · rw [h y hy] at hby
        cases hby
      · rw [List.mem_singleton.mp hy, lessR_iff]
        omega
    | some b =>
      obtain ⟨h1, h2, h3⟩ := h
      show BestOf cs (l ++ [x]) (if lessR x b = true then some x else some b)
      by_cases hl : lessR x b = true
      · rw [if_pos hl]
        refine ⟨List.mem_append_right _ (List.mem_singleton.mpr rfl), hb, fun y hy hby => ?_⟩
        rcases List.mem_append.mp hy with hy | hy
        · have a := h3 y hy hby
          rw [lessR_iff] at a hl ⊢
          omega
        · rw [List.mem_singleton.mp hy, lessR_iff]
          omega
      · rw [if_neg hl]
        refine ⟨List.mem_append_left _ h1, h2, fun y hy hby => ?_⟩
        rcases List.mem_append.mp hy with hy | hy
        · exact h3 y hy hby
        · rw [List.mem_singleton.mp hy]
          exact hl
  · rw [if_neg hb]
    cases o with
    | none =>
      intro y hy
      rcases List.mem_append.mp hy with hy | hy
      · exact h y hy
      · rw [List.mem_singleton.mp hy]
        exact Bool.eq_false_iff.mpr hb
    | some b =>
      obtain ⟨h1, h2, h3⟩ := h
      refine ⟨List.mem_append_left _ h1, h2, fun y hy hby => ?_⟩
      rcases List.mem_append.mp hy with hy | hy
      · exact h3 y hy hby
      · rw [List.mem_singleton.mp hy] at hby
        exact absurd hby hb
theorem best_fold {cs : List Int} : ∀ (r l : List (Int × List Int)) (o : Option (Int × List Int)), BestOf cs l o → BestOf cs (l ++ r) (r.foldl (jstep cs) o)
  | [], l, o, h => by
    rw [List.append_nil]
    exact h
  | x :: r, l, o, h => by
    have e : l ++ x :: r = l ++ [x] ++ r := by rw [List.append_assoc]; rfl
    rw [e]
    exact best_fold r (l ++ [x]) _ (best_step x h)
theorem judged_best (cs : List Int) : BestOf cs (trialsL cs) (judgedM cs) := best_fold (trialsL cs) [] none (fun _ h => nomatch h)
/-- no verdict: no amount is wrong -/
theorem verdict_none {cs : List Int} (R : Row cs) (h : judgedM cs = none) {ws : List Int} (hl : ws.length = cs.length) (hn : ∀ v ∈ ws, 0 ≤ v) : (fw cs (dot cs ws)).sum ≤ ws.sum := by
  have b := judged_best cs
  rw [h] at b
  by_cases hb : ws.sum < (fw cs (dot cs ws)).sum
  · obtain ⟨hi, lo, h1, h2, h3, _⟩ := trials_complete R hl hn hb
    have z := b _ (mem_trials h1 h2)
    rw [h3] at z
    cases z
  · omega
structure Verdict (cs : List Int) (p : Int × List Int) : Prop where
  tr : ∃ hi lo, lo < hi ∧ hi < cs.length ∧ p = tri cs hi lo
  wrong : p.2.sum < (fw cs p.1).sum
  few : ∀ us : List Int, us.length = cs.length → (∀ v ∈ us, 0 ≤ v) → dot cs us = p.1 → p.2.sum ≤ us.sum
  least : ∀ us : List Int, us.length = cs.length → (∀ v ∈ us, 0 ≤ v) → dot cs us < p.1 → (fw cs (dot cs us)).sum ≤ us.sum
theorem verdict_some {cs : List Int} (R : Row cs) {p : Int × List Int} (h : judgedM cs = some p) : Verdict cs p := by
  have b := judged_best cs
  rw [h] at b
  obtain ⟨h1, h2, h3⟩ := b
  obtain ⟨hi, lo, k1, k2, e⟩ := trials_mem h1
  have wr : p.2.sum < (fw cs p.1).sum := of_decide_eq_true h2
  have ew : dot cs p.2 = p.1 := by rw [e]; rfl
  have el : p.2.length = cs.length := by rw [e]; exact triW_length (by omega)
  have en : ∀ v ∈ p.2, 0 ≤ v := by
    rw [e]
    exact fun v hv => (triW_mem R k1 k2 v hv).1
  obtain ⟨hi', lo', a1, a2, a3, a4, a5, a6⟩ := trials_complete R el en (by rw [ew]; exact wr)
  rw [ew] at a4
  have nl := h3 _ (mem_trials a1 a2) a3
  rw [lessR_iff] at nl
  have e1 : (tri cs hi' lo').1 = p.1 := by omega
  have e2 : p.2.sum ≤ (tri cs hi' lo').2.sum := by omega
  refine ⟨⟨hi, lo, k1, k2, e⟩, wr, fun us u1 u2 u3 => ?_, fun us u1 u2 u3 => ?_⟩
  · have := a5 us u1 u2 (by rw [e1]; exact u3)
    omega
  · exact a6 us u1 u2 (by rw [e1]; exact u3)
end Cj

namespace Cj
/-- a coin's own worth is given by that coin -/
theorem coin_one {cs : List Int} (R : Row cs) {k : Nat} (hk : k < cs.length) : (fw cs (at0 cs k)).sum = 1 := by
  have C := R.coins
  have g : Gr (at0 cs) cs.length (one k) := ⟨fun l hl => by
    by_cases e : l = k
    · rw [e, one_same]
      decide
    · rw [one_ne e]
      exact Int.le_refl _, fun l hl => by
    rw [W_one]
    by_cases e : k < l
    · rw [if_pos e]
      exact C.lt e hl
    · rw [if_neg e]
      have := C.ge hl
      omega⟩
  have a := fw_unique_sum R g
  rw [W_one, if_pos hk, P_one, if_pos hk] at a
  exact a.symm
theorem third_two {cs : List Int} (R : Row cs) (h : 2 < cs.length) (h3 : 3 < cs.length → at0 cs 2 + 1 < at0 cs 3) : (fw cs (at0 cs 2 + 1)).sum = 2 := by
  have C := R.coins
  have c0 := C.one
  have c1 : at0 cs 0 < at0 cs 1 := C.up 0 (by omega)
  have g : Gr (at0 cs) cs.length (fun k => one 0 k + one 2 k) := ⟨fun l hl => by
    show 0 ≤ one 0 l + one 2 l
    unfold one
    by_cases e : l = 0
    · rw [if_pos e, if_neg (by omega)]
      decide
    · rw [if_neg e]
      by_cases e2 : l = 2
      · rw [if_pos e2]
        decide
      · rw [if_neg e2]
        decide, fun l hl => by
    rw [W_add, W_one, W_one]
    by_cases e0 : l = 0
    · subst e0
      rw [if_neg (by omega), if_neg (by omega), c0]
      decide
    · rw [if_pos (by omega), c0]
      by_cases e2 : 2 < l
      · rw [if_pos e2]
        have := h3 (by omega)
        have := C.le (i := 3) (j := l) (by omega) hl
        omega
      · rw [if_neg e2]
        have := C.le (i := 1) (j := l) (by omega) hl
        omega⟩
  have a := fw_unique_sum R g
  rw [W_add, W_one, W_one, if_pos (by omega), if_pos h, c0, sm_add, P_one, P_one, if_pos (by omega), if_pos h] at a
  rw [show at0 cs 2 + 1 = 1 + at0 cs 2 by omega, ← a]
  rfl
theorem verdict_bounds {cs : List Int} (R : Row cs) {p : Int × List Int} (h : judgedM cs = some p) : 2 < cs.length ∧ cs.getD 2 0 + 1 < p.1 ∧ p.1 < cs.getD (cs.length - 1) 0 + cs.getD (cs.length - 2) 0 := by
  have V := verdict_some R h
  have C := R.coins
  obtain ⟨hi, lo, k1, k2, e⟩ := V.tr
  have ll : lo < cs.length := by omega
  have ew : p.1 = at0 cs lo + (at0 cs hi - 1) - rs (cs.drop lo) (cs.getD hi 0 - 1) := by
    rw [e]
    exact tri_worth (hi := hi) (at0_get ll)
  have r := rs_lt (cs.getD hi 0 - 1) (at0_get ll) (C.ge ll)
  have el : p.2.length = cs.length := by rw [e]; exact triW_length ll
  have en : ∀ v ∈ p.2, 0 ≤ v := by
    rw [e]
    exact fun v hv => (triW_mem R k1 k2 v hv).1
  have nn := nn_list en
  rw [el] at nn
  have eat : at0 p.2 lo = at0 (fw cs (cs.getD hi 0 - 1)) lo + 1 := by
    rw [e]
    show at0 (triW cs hi lo) lo = _
    rw [triW_at ll ll]
    unfold tr
    rw [if_neg (by omega), one_same]
  have ge1 : 0 ≤ at0 (fw cs (cs.getD hi 0 - 1)) lo := (fw_gr R (by have := C.ge k2; show 0 ≤ at0 cs hi - 1; omega)).nn lo ll
  have s1 : 1 ≤ p.2.sum := by
    rw [sum_all, el]
    have := sm_ge ll nn
    omega
  have wr := V.wrong
  have nocoin : ∀ k, k < cs.length → p.1 ≠ at0 cs k := fun k hk z => by
    rw [z, coin_one R hk] at wr
    omega
  have n3 : 2 < cs.length ∧ at0 cs 2 + 1 < p.1 := by
    rcases Nat.lt_or_ge hi 2 with h2 | h2
    · exfalso
      have e1 : hi = 1 := by omega
      have e0 : lo = 0 := by omega
      subst e1 e0
      rw [C.one] at ew r
      exact nocoin 1 k2 (by omega)
    · refine ⟨by omega, ?_⟩
      have c2 := C.le (i := 2) (j := hi) h2 k2
      by_cases hw : at0 cs 2 + 1 < p.1
      · exact hw
      · exfalso
        have n2 := nocoin 2 (by omega)
        have w3 : p.1 = at0 cs 2 + 1 := by omega
        have h3 : 3 < cs.length → at0 cs 2 + 1 < at0 cs 3 := fun z => by
          have a := C.up 2 (by omega)
          have b := nocoin 3 z
          have a' : at0 cs 2 < at0 cs 3 := a
          omega
        have e2 : hi = 2 := by
          by_cases z : hi = 2
          · exact z
          · have := C.le (i := 3) (j := hi) (by omega) k2
            have := h3 (by omega)
            omega
        subst e2
        have t := third_two R k2 h3
        rw [← w3] at t
        rw [t] at wr
        have s2 : sm cs.length (fun k => at0 p.2 k - one lo k) = 0 := by
          rw [P_less _ ll, ← el, ← sum_all]
          omega
        have z := sm_eq_zero (nn_less nn (j := lo) (by omega)) s2
        have w4 : W (at0 cs) (fun k => at0 p.2 k - one lo k) cs.length = 0 := sm_zero fun k hk => by
          have zk : at0 p.2 k - one lo k = 0 := z k hk
          show (at0 p.2 k - one lo k) * at0 cs k = 0
          rw [zk, Int.zero_mul]
        rw [W_less _ _ ll, ← dot_all el] at w4
        have w5 : dot cs p.2 = p.1 := by rw [e]; rfl
        exact nocoin lo ll (by omega)
  refine ⟨n3.1, n3.2, ?_⟩
  have a := C.le (i := hi) (j := cs.length - 1) (by omega) (by omega)
  have b := C.le (i := lo) (j := cs.length - 2) (by omega) (by omega)
  show p.1 < at0 cs (cs.length - 1) + at0 cs (cs.length - 2)
  omega
end Cj

namespace Cj
/-- what a comprehension with a test gives -/
def fm (f : Int → Int) (b : Int → Bool) (l : List Int) : List Int := (l.filter b).map f
theorem fm_yes {f : Int → Int} {b : Int → Bool} {l : List Int} {i : Nat} {x : Int} (h : l[i]? = some x) (hb : b x = true) : fm f b (l.take (i + 1)) = fm f b (l.take i) ++ [f x] := by
  unfold fm
  rw [take_at h, List.filter_append, List.map_append, List.filter_cons, if_pos hb]
  rfl
theorem fm_no {f : Int → Int} {b : Int → Bool} {l : List Int} {i : Nat} {x : Int} (h : l[i]? = some x) (hb : b x = false) : fm f b (l.take (i + 1)) = fm f b (l.take i) := by
  unfold fm
  rw [take_at h, List.filter_append, List.map_append, List.filter_cons, if_neg (by rw [hb]; decide)]
  exact List.append_nil _
theorem fm_mem {f : Int → Int} {b : Int → Bool} {l : List Int} {y : Int} : y ∈ fm f b l ↔ ∃ x, x ∈ l ∧ b x = true ∧ f x = y := by
  unfold fm
  rw [List.mem_map]
  constructor
  · rintro ⟨x, hx, e⟩
    rw [List.mem_filter] at hx
    exact ⟨x, hx.1, hx.2, e⟩
  · rintro ⟨x, h1, h2, e⟩
    exact ⟨x, List.mem_filter.mpr ⟨h1, h2⟩, e⟩
theorem fm_len (f : Int → Int) (b : Int → Bool) (l : List Int) : (fm f b l).length ≤ l.length := by
  unfold fm
  rw [List.length_map]
  exact List.length_filter_le _ _
/-- one piece less, one piece more, as lists -/
theorem less_list {cs ws : List Int} (hl : ws.length = cs.length) (hn : ∀ v ∈ ws, 0 ≤ v) {k : Nat} (hk : k < cs.length) (hp : 0 < at0 ws k) :
    ∃ us : List Int, us.length = cs.length ∧ (∀ v ∈ us, 0 ≤ v) ∧ dot cs us = dot cs ws - at0 cs k ∧ us.sum = ws.sum - 1 := by
  have nn := nn_list hn
  rw [hl] at nn
  refine ⟨ofF cs.length (fun l => at0 ws l - one k l), ofF_len _ _, ofF_nn (nn_less nn hp), ?_, ?_⟩
  · rw [ofF_dot, W_less _ _ hk, dot_all hl]
  · rw [ofF_sum, P_less _ hk, sum_all ws, hl]
theorem more_list {cs ws : List Int} (hl : ws.length = cs.length) (hn : ∀ v ∈ ws, 0 ≤ v) {k : Nat} (hk : k < cs.length) :
    ∃ us : List Int, us.length = cs.length ∧ (∀ v ∈ us, 0 ≤ v) ∧ dot cs us = dot cs ws + at0 cs k ∧ us.sum = ws.sum + 1 := by
  have nn := nn_list hn
  rw [hl] at nn
  refine ⟨ofF cs.length (fun l => at0 ws l + one k l), ofF_len _ _, ofF_nn (nn_more nn), ?_, ?_⟩
  · rw [ofF_dot, W_more _ _ hk, dot_all hl]
  · rw [ofF_sum, P_more _ hk, sum_all ws, hl]
theorem fw_nn {cs : List Int} (R : Row cs) {a : Int} (h : 0 ≤ a) : ∀ v ∈ fw cs a, 0 ≤ v := fun v hv => (fw_mem R.posM h v hv).1
theorem dot_nn {cs ws : List Int} (R : Row cs) (hl : ws.length = cs.length) (hn : ∀ v ∈ ws, 0 ≤ v) : 0 ≤ dot cs ws := by
  rw [dot_all hl]
  have n := nn_list hn
  rw [hl] at n
  exact sm_nonneg fun k hk => W_parts R.coins n k hk
/-- a way that is worth something has a piece of a coin that goes into it -/
theorem piece_list {cs ws : List Int} (R : Row cs) (hl : ws.length = cs.length) (hn : ∀ v ∈ ws, 0 ≤ v) (hw : dot cs ws ≠ 0) : ∃ k, k < cs.length ∧ 0 < at0 ws k ∧ at0 cs k ≤ dot cs ws := by
  have nn := nn_list hn
  rw [hl] at nn
  rw [dot_all hl] at hw ⊢
  obtain ⟨k, hk, pk⟩ := exists_piece nn hw
  refine ⟨k, hk, pk, ?_⟩
  have a := sm_ge (f := fun l => at0 ws l * at0 cs l) hk fun l hl => W_parts R.coins nn l hl
  have a' : at0 ws k * at0 cs k ≤ W (at0 cs) (at0 ws) cs.length := a
  have c1 := R.coins.ge hk
  have m : 1 * at0 cs k ≤ at0 ws k * at0 cs k := Int.mul_le_mul_of_nonneg_right (by omega) (by omega)
  omega
structure VerdictW (cs : List Int) (p : Int × List Int) : Prop where
  len : p.2.length = cs.length
  nn : ∀ v ∈ p.2, 0 ≤ v
  top : ∀ v ∈ p.2, v ≤ 10 ^ 60
  worth : dot cs p.2 = p.1
  pos : 1 ≤ p.1
  le : p.1 ≤ 2 * 10 ^ 60
theorem Verdict.way {cs : List Int} (R : Row cs) {p : Int × List Int} (V : Verdict cs p) : VerdictW cs p := by
  obtain ⟨hi, lo, k1, k2, e⟩ := V.tr
  have b := tri_bounds R k1 k2
  rw [← e] at b
  refine ⟨by rw [e]; exact triW_length (by omega), by rw [e]; exact fun v hv => (triW_mem R k1 k2 v hv).1, by rw [e]; exact fun v hv => (triW_mem R k1 k2 v hv).2, by rw [e]; rfl, b.1, b.2⟩
/-- the least that the shop gives of the amount less one coin, and one piece more -/
theorem verdict_least {cs : List Int} (R : Row cs) {p : Int × List Int} (V : Verdict cs p) {m : Int} (hm : m ∈ fm (fun c => (fw cs (p.1 - c)).sum) (fun c => decide (c ≤ p.1)) cs) (hle : ∀ y ∈ fm (fun c => (fw cs (p.1 - c)).sum) (fun c => decide (c ≤ p.1)) cs, m ≤ y) : p.2.sum = 1 + m := by
  have Y := V.way R
  have a : p.2.sum ≤ m + 1 := by
    obtain ⟨c, hc, hb, e⟩ := fm_mem.mp hm
    have hb' := of_decide_eq_true hb
    obtain ⟨k, hk⟩ := List.mem_iff_getElem?.mp hc
    have kl := (List.getElem?_eq_some_iff.mp hk).1
    obtain ⟨us, u1, u2, u3, u4⟩ := more_list (fw_length cs (p.1 - c)) (fw_nn R (by omega)) kl
    rw [fw_worth R, at0_of hk] at u3
    have := V.few us u1 u2 (by omega)
    have e' : (fw cs (p.1 - c)).sum = m := e
    omega
  have b : m + 1 ≤ p.2.sum := by
    obtain ⟨k, hk, pk, le⟩ := piece_list R Y.len Y.nn (by rw [Y.worth]; have := Y.pos; omega)
    rw [Y.worth] at le
    obtain ⟨us, u1, u2, u3, u4⟩ := less_list Y.len Y.nn hk pk
    rw [Y.worth] at u3
    have c1 := R.coins.ge hk
    have l := V.least us u1 u2 (by omega)
    rw [u3] at l
    have := hle _ (fm_mem.mpr ⟨at0 cs k, at0_mem hk, decide_eq_true le, rfl⟩)
    omega
  omega
theorem verdict_some_coin {cs : List Int} (R : Row cs) {p : Int × List Int} (V : Verdict cs p) : 0 < (fm (fun c => (fw cs (p.1 - c)).sum) (fun c => decide (c ≤ p.1)) cs).length := by
  have Y := V.way R
  have m : (fw cs (p.1 - 1)).sum ∈ fm (fun c => (fw cs (p.1 - c)).sum) (fun c => decide (c ≤ p.1)) cs := fm_mem.mpr ⟨1, List.mem_of_getElem? R.hd, decide_eq_true Y.pos, rfl⟩
  exact List.length_pos_of_mem m
end Cj

namespace Cj
/-- m pieces are the fewest for the amount a -/
structure IsOpt (cs : List Int) (a m : Int) : Prop where
  way : ∃ ws : List Int, ws.length = cs.length ∧ (∀ v ∈ ws, 0 ≤ v) ∧ dot cs ws = a ∧ ws.sum = m
  few : ∀ ws : List Int, ws.length = cs.length → (∀ v ∈ ws, 0 ≤ v) → dot cs ws = a → m ≤ ws.sum
theorem sum_nn {ws : List Int} (h : ∀ v ∈ ws, 0 ≤ v) : 0 ≤ ws.sum := by
  rw [sum_all]
  exact sm_nonneg (nn_list h)
theorem opt_zero (cs : List Int) : IsOpt cs 0 0 where
  way := ⟨ofF cs.length fun _ => 0, ofF_len _ _, ofF_nn fun _ _ => Int.le_refl _, by
    rw [ofF_dot]
    exact sm_zero fun k _ => Int.zero_mul _, by
    rw [ofF_sum]
    exact sm_zero fun _ _ => rfl⟩
  few := fun ws _ h _ => sum_nn h
/-- the table's values for the amount less one coin -/
def prevs (L cs : List Int) (a : Int) : List Int := fm (fun c => L.getD (a - c).toNat 0) (fun c => decide (c ≤ a)) cs
theorem opt_step {cs L : List Int} (R : Row cs) {a : Nat} (ha : 0 < a) (hL : L.length = a) (h : ∀ k : Nat, k < a → IsOpt cs k (L.getD k 0)) {m : Int} (hm : m ∈ prevs L cs a) (hle : ∀ y ∈ prevs L cs a, m ≤ y) : IsOpt cs a (1 + m) where
  way := by
    obtain ⟨c, hc, hb, e⟩ := fm_mem.mp hm
    have hb' := of_decide_eq_true hb
    obtain ⟨k, hk⟩ := List.mem_iff_getElem?.mp hc
    have kl := (List.getElem?_eq_some_iff.mp hk).1
    have c1 := R.posM c hc
    obtain ⟨ws, w1, w2, w3, w4⟩ := (h ((a : Int) - c).toNat (by omega)).way
    obtain ⟨us, u1, u2, u3, u4⟩ := more_list w1 w2 kl
    rw [at0_of hk] at u3
    have e' : L.getD ((a : Int) - c).toNat 0 = m := e
    exact ⟨us, u1, u2, by omega, by omega⟩
  few := fun ws w1 w2 w3 => by
    obtain ⟨k, hk, pk, le⟩ := piece_list R w1 w2 (by omega)
    obtain ⟨us, u1, u2, u3, u4⟩ := less_list w1 w2 hk pk
    have c1 := R.coins.ge hk
    have f := (h ((a : Int) - at0 cs k).toNat (by omega)).few us u1 u2 (by omega)
    have := hle _ (fm_mem.mpr ⟨at0 cs k, at0_mem hk, decide_eq_true (by omega), rfl⟩)
    omega
theorem prevs_pos {cs L : List Int} (R : Row cs) {a : Int} (ha : 1 ≤ a) : 0 < (prevs L cs a).length :=
  List.length_pos_of_mem (fm_mem.mpr ⟨1, List.mem_of_getElem? R.hd, decide_eq_true ha, rfl⟩)
/-- a wrong amount, all before it right: the verdict tells it -/
theorem first_wrong {cs : List Int} (R : Row cs) {a : Nat} {m : Int} (h : IsOpt cs a m) (hw : m < (fw cs a).sum) (before : ∀ k : Nat, k < a → ∃ m, IsOpt cs k m ∧ (fw cs k).sum ≤ m) : ∃ p, judgedM cs = some p ∧ p.1 = (a : Int) ∧ p.2.sum = m := by
  obtain ⟨ws, w1, w2, w3, w4⟩ := h.way
  cases e : judgedM cs with
  | none =>
    have := verdict_none R e w1 w2
    rw [w3] at this
    omega
  | some p =>
    have V := verdict_some R e
    have Y := V.way R
    have pos := Y.pos
    have e1 : p.1 = (a : Int) := by
      rcases Int.lt_trichotomy p.1 (a : Int) with l | l | l
      · obtain ⟨m', o, b⟩ := before p.1.toNat (by omega)
        rw [show ((p.1.toNat : Nat) : Int) = p.1 by omega] at o b
        have := o.few p.2 Y.len Y.nn Y.worth
        have := V.wrong
        omega
      · exact l
      · have := V.least ws w1 w2 (by omega)
        rw [w3] at this
        omega
    refine ⟨p, rfl, e1, ?_⟩
    have f1 := h.few p.2 Y.len Y.nn (by rw [Y.worth]; exact e1)
    have f2 := V.few ws w1 w2 (by omega)
    omega
theorem none_wrong {cs : List Int} (R : Row cs) {last : Int} (hl : cs[cs.length - 1]? = some last) (all : ∀ k : Nat, (k : Int) ≤ 2 * last → ∃ m, IsOpt cs k m ∧ (fw cs k).sum ≤ m) : judgedM cs = none := by
  cases e : judgedM cs with
  | none => rfl
  | some p =>
    have V := verdict_some R e
    have Y := V.way R
    have pos := Y.pos
    obtain ⟨b1, b2, b3⟩ := verdict_bounds R e
    have c := R.coins.le (i := cs.length - 2) (j := cs.length - 1) (by omega) (by omega)
    have el : at0 cs (cs.length - 1) = last := at0_of hl
    have b3' : p.1 < at0 cs (cs.length - 1) + at0 cs (cs.length - 2) := b3
    obtain ⟨m, o, b⟩ := all p.1.toNat (by omega)
    rw [show ((p.1.toNat : Nat) : Int) = p.1 by omega] at o b
    have := o.few p.2 Y.len Y.nn Y.worth
    have := V.wrong
    omega
end Cj

namespace Cj
/-- ws is no worse than us: fewer pieces, or as many and at the greatest unlike place more -/
def NotBehind (ws us : List Int) : Prop := ws.sum < us.sum ∨ (ws.sum = us.sum ∧ ((∃ j, j < ws.length ∧ at0 us j < at0 ws j ∧ ∀ i, j < i → i < ws.length → at0 ws i = at0 us i) ∨ ∀ i, i < ws.length → at0 ws i = at0 us i))
/-- a way of a by m pieces -/
structure WayOf (cs : List Int) (a m : Int) (ws : List Int) : Prop where
  len : ws.length = cs.length
  nn : ∀ v ∈ ws, 0 ≤ v
  worth : dot cs ws = a
  sum : ws.sum = m
theorem wayOf_more {cs us : List Int} {a m : Int} {k : Nat} (h : WayOf cs a m us) (hk : k < cs.length) : WayOf cs (a + at0 cs k) (m + 1) (ofF cs.length fun i => at0 us i + one k i) where
  len := ofF_len _ _
  nn := ofF_nn (nn_more (by have z := nn_list h.nn; rw [h.len] at z; exact z))
  worth := by
    rw [ofF_dot, W_more _ _ hk, ← dot_all h.len, h.worth]
  sum := by
    rw [ofF_sum, P_more _ hk, ← h.len, ← sum_all, h.sum]
theorem wayOf_less {cs us : List Int} {a m : Int} {k : Nat} (h : WayOf cs a m us) (hk : k < cs.length) (hp : 0 < at0 us k) : WayOf cs (a - at0 cs k) (m - 1) (ofF cs.length fun i => at0 us i - one k i) where
  len := ofF_len _ _
  nn := ofF_nn (nn_less (by have z := nn_list h.nn; rw [h.len] at z; exact z) hp)
  worth := by
    rw [ofF_dot, W_less _ _ hk, ← dot_all h.len, h.worth]
  sum := by
    rw [ofF_sum, P_less _ hk, ← h.len, ← sum_all, h.sum]
/-- the table tells the fewest pieces of all amounts up to n -/
def Table (cs L : List Int) (n : Nat) : Prop := L.length = n + 1 ∧ ∀ k : Nat, k < n + 1 → IsOpt cs k (L.getD k 0)
/-- behind the coins from k on: w is taken, d is due -/
structure Taken (cs L : List Int) (n k : Nat) (w : List Int) (d : Nat) : Prop where
  le : d ≤ n
  way : WayOf cs ((n : Int) - (d : Int)) (L.getD n 0 - L.getD d 0) w
  low : ∀ j, j < k → at0 w j = 0
  high : ∀ us, WayOf cs d (L.getD d 0) us → ∀ j, k ≤ j → j < cs.length → at0 us j = 0
  lex : ∀ us, WayOf cs n (L.getD n 0) us → (∃ j, k ≤ j ∧ j < cs.length ∧ at0 us j < at0 w j ∧ ∀ i, j < i → i < cs.length → at0 w i = at0 us i) ∨ ∀ i, k ≤ i → i < cs.length → at0 w i = at0 us i
/-- while the coin at k is taken -/
structure Taking (cs L : List Int) (n k : Nat) (w : List Int) (d : Nat) : Prop where
  le : d ≤ n
  way : WayOf cs ((n : Int) - (d : Int)) (L.getD n 0 - L.getD d 0) w
  low : ∀ j, j < k → at0 w j = 0
  high : ∀ us, WayOf cs d (L.getD d 0) us → ∀ j, k < j → j < cs.length → at0 us j = 0
  lex : ∀ us, WayOf cs n (L.getD n 0) us → (∃ j, k < j ∧ j < cs.length ∧ at0 us j < at0 w j ∧ ∀ i, j < i → i < cs.length → at0 w i = at0 us i) ∨ ∀ i, k < i → i < cs.length → at0 w i = at0 us i
theorem Table.way {cs L : List Int} {n d : Nat} (T : Table cs L n) (h : d ≤ n) : ∃ us, WayOf cs d (L.getD d 0) us := by
  obtain ⟨us, a, b, c, e⟩ := (T.2 d (by omega)).way
  exact ⟨us, a, b, c, e⟩
theorem Table.few {cs L : List Int} {n d : Nat} (T : Table cs L n) (h : d ≤ n) {m : Int} {us : List Int} (w : WayOf cs d m us) : L.getD d 0 ≤ m := by
  have z := (T.2 d (by omega)).few us w.len w.nn w.worth
  rw [w.sum] at z
  exact z
theorem taken_start {cs L : List Int} {n : Nat} : Taken cs L n cs.length (List.replicate cs.length 0) n where
  le := Nat.le_refl _
  way := ⟨List.length_replicate, fun v hv => by rw [(List.mem_replicate.mp hv).2]; exact Int.le_refl _, by
    have z := dot_zeros cs.length cs []
    rw [List.append_nil, List.drop_length] at z
    rw [z, Int.sub_self]
    rfl, by
    rw [Int.sub_self]
    generalize cs.length = m
    induction m with
    | zero => rfl
    | succ m ih =>
      rw [List.replicate_succ, List.sum_cons, ih]
      rfl⟩
  low := fun j hj => at0_of (by rw [List.getElem?_replicate, if_pos hj])
  high := fun _ _ j h1 h2 => by omega
  lex := fun _ _ => .inr fun i h1 h2 => by omega
theorem Taken.begin {cs L : List Int} {n k d : Nat} {w : List Int} (T : Taken cs L n (k + 1) w d) : Taking cs L n k w d :=
  ⟨T.le, T.way, fun j hj => T.low j (by omega), fun us h j h1 h2 => T.high us h j (by omega) h2, fun us h => by
    rcases T.lex us h with ⟨j, a, b⟩ | z
    · exact .inl ⟨j, by omega, b⟩
    · exact .inr fun i h1 h2 => z i (by omega) h2⟩
theorem Taking.step {cs L : List Int} {n k d : Nat} {w : List Int} (R : Row cs) (T : Taking cs L n k w d) (B : Table cs L n) (hk : k < cs.length) {c : Nat} (hc : at0 cs k = (c : Int)) (hle : c ≤ d) (hl : L.getD (d - c) 0 < L.getD d 0) :
    Taking cs L n k (ofF cs.length fun i => at0 w i + one k i) (d - c) := by
  have dn := T.le
  have cast : ((d - c : Nat) : Int) = (d : Int) - (c : Int) := by omega
  have one1 : L.getD (d - c) 0 = L.getD d 0 - 1 := by
    obtain ⟨us, hu⟩ := B.way (d := d - c) (by omega)
    have z := wayOf_more hu hk
    rw [hc, cast, show (d : Int) - (c : Int) + (c : Int) = (d : Int) by omega] at z
    have := B.few dn z
    omega
  refine ⟨by omega, ?_, fun j hj => ?_, fun us hu j h1 h2 => ?_, fun us hu => ?_⟩
  · have z := wayOf_more T.way hk
    rw [hc] at z
    rw [cast, one1]
    rw [show (n : Int) - ((d : Int) - (c : Int)) = (n : Int) - (d : Int) + (c : Int) by omega, show L.getD n 0 - (L.getD d 0 - 1) = L.getD n 0 - L.getD d 0 + 1 by omega]
    exact z
  · rw [ofF_at _ (by omega), T.low j hj, one_ne (by omega)]
    rfl
  · have z := wayOf_more hu hk
    rw [hc, cast, show (d : Int) - (c : Int) + (c : Int) = (d : Int) by omega, one1, show L.getD d 0 - 1 + 1 = L.getD d 0 by omega] at z
    have y := T.high _ z j h1 h2
    rw [ofF_at _ h2, one_ne (by omega), Int.add_zero] at y
    exact y
  · have same : ∀ i, k < i → i < cs.length → at0 (ofF cs.length fun i => at0 w i + one k i) i = at0 w i := fun i h1 h2 => by
      rw [ofF_at _ h2, one_ne (by omega), Int.add_zero]
    rcases T.lex us hu with ⟨j, a, b, c1, e⟩ | z
    · exact .inl ⟨j, a, b, by rw [same j a b]; exact c1, fun i h1 h2 => by rw [same i (by omega) h2]; exact e i h1 h2⟩
    · exact .inr fun i h1 h2 => by rw [same i h1 h2]; exact z i h1 h2
theorem Taking.done {cs L : List Int} {n k d : Nat} {w : List Int} (R : Row cs) (T : Taking cs L n k w d) (B : Table cs L n) (hk : k < cs.length) {c : Nat} (hc : at0 cs k = (c : Int)) (hx : d < c ∨ L.getD d 0 ≤ L.getD (d - c) 0) : Taken cs L n k w d := by
  have dn := T.le
  have no : ∀ us, WayOf cs d (L.getD d 0) us → at0 us k = 0 := fun us hu => by
    have nn := nn_list hu.nn k (by rw [hu.len]; exact hk)
    by_cases p : 0 < at0 us k
    · have z := wayOf_less hu hk p
      have zz := W_parts R.coins (V := at0 (ofF cs.length fun i => at0 us i - one k i)) (by have y := nn_list z.nn; rw [z.len] at y; exact y)
      have pos : 0 ≤ (d : Int) - at0 cs k := by
        rw [← z.worth, dot_all z.len]
        exact sm_nonneg zz
      rw [hc] at pos z
      have cast : (d : Int) - (c : Int) = ((d - c : Nat) : Int) := by omega
      rw [cast] at z
      have := B.few (d := d - c) (by omega) z
      omega
    · omega
  refine ⟨T.le, T.way, T.low, fun us hu j h1 h2 => ?_, fun us hu => ?_⟩
  · by_cases e : j = k
    · rw [e]
      exact no us hu
    · exact T.high us hu j (by omega) h2
  · rcases T.lex us hu with ⟨j, a, b⟩ | z
    · exact .inl ⟨j, by omega, b⟩
    · by_cases lt : at0 us k < at0 w k
      · exact .inl ⟨k, Nat.le_refl _, hk, lt, fun i h1 h2 => z i h1 h2⟩
      by_cases eq : at0 w k = at0 us k
      · exact .inr fun i h1 h2 => by
          by_cases e : i = k
          · rw [e]
            exact eq
          · exact z i (by omega) h2
      exfalso
      have wl := T.way.len
      have nnu := nn_list hu.nn
      rw [hu.len] at nnu
      have diff : WayOf cs d (L.getD d 0) (ofF cs.length fun i => at0 us i - at0 w i) := by
        refine ⟨ofF_len _ _, ofF_nn fun i hi => ?_, ?_, ?_⟩
        · show 0 ≤ at0 us i - at0 w i
          rcases Nat.lt_trichotomy i k with l | l | l
          · rw [T.low i l]
            have := nnu i hi
            omega
          · rw [l]
            omega
          · rw [z i l hi]
            omega
        · rw [ofF_dot, W_sub, ← dot_all hu.len, ← dot_all wl, hu.worth, T.way.worth]
          omega
        · rw [ofF_sum, P_sub]
          have e1 := sum_all us
          have e2 := sum_all w
          rw [hu.len, hu.sum] at e1
          rw [wl, T.way.sum] at e2
          omega
      have y := no _ diff
      rw [ofF_at _ hk] at y
      omega
/-- all coins are gone through: nothing is due -/
theorem Taken.all {cs L : List Int} {n d : Nat} {w : List Int} (T : Taken cs L n 0 w d) (B : Table cs L n) : WayOf cs n (L.getD n 0) w ∧ ∀ us : List Int, us.length = cs.length → (∀ v ∈ us, 0 ≤ v) → dot cs us = n → NotBehind w us := by
  obtain ⟨us, hu⟩ := B.way T.le
  have d0 : d = 0 := by
    have e : (d : Int) = 0 := by
      rw [← hu.worth, dot_all hu.len]
      exact sm_zero fun k hk => by rw [T.high us hu k (Nat.zero_le _) hk, Int.zero_mul]
    omega
  subst d0
  have l0 : L.getD 0 0 = 0 := by
    have z1 := (B.2 0 (by omega)).few _ (opt_zero cs).way.choose_spec.1 (opt_zero cs).way.choose_spec.2.1 (opt_zero cs).way.choose_spec.2.2.1
    rw [(opt_zero cs).way.choose_spec.2.2.2] at z1
    obtain ⟨vs, v1, v2, v3, v4⟩ := (B.2 0 (by omega)).way
    have z2 := sum_nn v2
    omega
  have W := T.way
  rw [l0, Int.sub_zero, show (n : Int) - ((0 : Nat) : Int) = (n : Int) by omega] at W
  refine ⟨W, fun vs hl hn hd => ?_⟩
  have f := (B.2 n (by omega)).few vs hl hn hd
  by_cases lt : L.getD n 0 < vs.sum
  · exact .inl (by rw [W.sum]; exact lt)
  · refine .inr ⟨by rw [W.sum]; omega, ?_⟩
    rcases T.lex vs ⟨hl, hn, hd, by omega⟩ with ⟨j, _, b, c, e⟩ | z
    · exact .inl ⟨j, by rw [W.len]; exact b, c, fun i h1 h2 => e i h1 (by rw [← W.len]; exact h2)⟩
    · exact .inr fun i h => z i (Nat.zero_le _) (by rw [← W.len]; exact h)
end Cj

namespace Cj
open PySem
def top (i : Nat) : Stmt := PySem.Challenge.pw_coinjudge_k07_fewest_pieces.main.body.getD i (.Pass ⟨0, 0, 0, 0⟩)
end Cj

namespace Cj
open PySem PySem.Spec PyProof.Rows L2
section
variable {P : Program} {w : World} {K : PySem.W.Frag} {mg : Str → Option Value} {base : Heap} {R W A G T' C D' : Addr} {nD : Str} {b1 b2 b3 b4 b5 : Bool}
abbrev s__law_kinds : Stmt := top 24
theorem sc__law_kinds : FnScope ["_law_e", "_law_some"] ["_law_e"] (defScope s__law_kinds) := ⟨rfl, rfl, rfl, by decide +kernel, rfl, by decide +kernel, by decide +kernel⟩

def spKinds (D : Addr) : Value → Option Addr → Hp → VK → Prop := fun cls d H Q => cls = .ref D ∧ d = none ∧ ∀ H', Same H H' → Q (.int 1) H'
theorem g_calP {σ : L2.St} {H : Hp} {Q : VK} {sp : Value → Option Addr → Hp → VK → Prop} {a : Addr} {cls : Value} {d : Option Addr} {te : TE} (h : te σ H fun v H1 => v = .ref a ∧ sp cls d H1 Q) : tCalP sp a cls d te σ H Q := h
theorem g_isX {H : Hp} {Q : VK} {D C a : Addr} {b : Bool} (e : ExcC K D) (k : PySem.W.kitOne K (.ref D) (.ref C) = some b) (q : Q (.bl b) H) : rIsX K (.ref D) none a [.ref a, .ref C] H Q := ⟨D, .ref C, .ref C, b, rfl, rfl, e, rfl, fun _ z => z, k, q⟩
theorem g_isXT {H : Hp} {Q : VK} {D a : Addr} {n : String} {b : Bool} (e : ExcC K D) (k : PySem.W.kitOne K (.ref D) (.type n) = some b) (q : Q (.bl b) H) : rIsX K (.ref D) none a [.ref a, .ty n] H Q := ⟨D, .ty n, .type n, b, rfl, rfl, e, rfl, fun _ z => z, k, q⟩
theorem ok_kinds {f : Addr} {fd : FuncData} (F : Fun K "_law_kinds" "_law_kinds" s__law_kinds f fd) (T : Bn mg) (D : ExD K mg R W A G T' C D' nD b1 b2 b3 b4 b5) : RunP P w K mg base 1 f fd ["_law_e"] (spKinds D') := by
  refine run_ofP F sc__law_kinds rfl fun o cls d cdv A0 outer s H Q hz hf hr h => ?_
  obtain ⟨rfl, rfl, q⟩ := h
  have gk_NoRow := D.nR
  have gk_NoWay := D.nW
  have gk_NoAmount := D.nA
  have gk_TooGreat := D.nG
  have gk_NoText := D.nT
  refine ⟨_, (pss_cons (ps_set (i := 1) sc__law_kinds.nd rfl (by first | exact Or.inl rfl | exact Or.inr rfl) (pe_lst (pa_cons (pe_callB (call_isX (K := K) (a := o.1) (o := o) rfl rfl List.mem_cons_self hz hf) (by rfl) T.m_isinstance (by decide +kernel) (pa_cons (pv 0) (pa_cons (pe_glob (v := .ref _) rfl gk_NoRow rfl) pa_nil))) (pa_cons (pe_callB (call_isX (K := K) (a := o.1) (o := o) rfl rfl List.mem_cons_self hz hf) (by rfl) T.m_isinstance (by decide +kernel) (pa_cons (pv 0) (pa_cons (pe_glob (v := .ref _) rfl gk_NoWay rfl) pa_nil))) (pa_cons (pe_callB (call_isX (K := K) (a := o.1) (o := o) rfl rfl List.mem_cons_self hz hf) (by rfl) T.m_isinstance (by decide +kernel) (pa_cons (pv 0) (pa_cons (pe_glob (v := .ref _) rfl gk_NoAmount rfl) pa_nil))) (pa_cons (pe_callB (call_isX (K := K) (a := o.1) (o := o) rfl rfl List.mem_cons_self hz hf) (by rfl) T.m_isinstance (by decide +kernel) (pa_cons (pv 0) (pa_cons (pe_glob (v := .ref _) rfl gk_TooGreat rfl) pa_nil))) pa_nil))))))
      (pss_one (ps_ret (pe_bm PySem.F.plainAttrs_list PySem.F.slot_list_count PySem.F.type_list_count mt_cntB (pe_op op_cat (pv 1) (pe_lst (pa_cons (pe_callB (call_isX (K := K) (a := o.1) (o := o) rfl rfl List.mem_cons_self hz hf) (by rfl) T.m_isinstance (by decide +kernel) (pa_cons (pv 0) (pa_cons (pe_glob (v := .ref _) rfl gk_NoText rfl) pa_nil))) pa_nil))) (pa_cons pe_bl pa_nil))))), ?_⟩
  try dsimp only [L2H.cxH, cxOf]
  refine g_start [some (.ref o.1), none] rfl ?_
  walk_at "go"
  refine g_isX D.ec D.q1 ?_
  walk_at "go"
  refine g_isX D.ec D.q2 ?_
  walk_at "go"
  refine g_isX D.ec D.q3 ?_
  walk_at "go"
  refine g_isX D.ec D.q4 ?_
  walk_at "go"
  refine ⟨small_le (by show 4 ≤ 100000; decide), fun p hp => ?_⟩
  walk_at "go"
  refine g_isX D.ec D.q5 ?_
  walk_at "go"
  refine ⟨small_le (by show 1 ≤ 100000; decide), fun l hl => ?_⟩
  have np : p ≠ l := ne_of_none upd_same hl
  have gp : (upd (upd H p (.lst [.bl b1, .bl b2, .bl b3, .bl b4])) l (.lst [.bl b5])) p = some (.lst [.bl b1, .bl b2, .bl b3, .bl b4]) := by
    rw [upd_ne np]
    exact upd_same
  refine g_cat gp upd_same (small_le (by show 5 ≤ 100000; decide)) fun m hm => ?_
  refine ⟨.inl ⟨rfl, _, SqL.of upd_same⟩, ?_⟩
  walk_at "go"
  refine ⟨m, [b1, b2, b3, b4, b5], rfl, rfl, SqL.of upd_same, ?_⟩
  rw [D.one]
  exact q _ fun b u z => by
    have z1 : b ≠ p := ne_of_none z hp
    have z2 : (upd H p (.lst [.bl b1, .bl b2, .bl b3, .bl b4])) b = some u := by rw [upd_ne z1]; exact z
    have z3 : b ≠ l := ne_of_none z2 hl
    have z4 : (upd (upd H p (.lst [.bl b1, .bl b2, .bl b3, .bl b4])) l (.lst [.bl b5])) b = some u := by rw [upd_ne z3]; exact z2
    rw [upd_ne (ne_of_none z4 hm)]
    exact z4
end
end Cj
namespace Cj
open PySem PySem.Spec PyProof.Rows L2
theorem pss_never {X : Cx} {ss : List Stmt} : PSs X ss (fun _ _ _ => False) := ⟨fun _ _ _ _ _ _ h => h.elim⟩
theorem g_callS {sp : Sp} {Ef : L2.St → XK} {tA : TA} {σ : L2.St} {H : Hp} {Q : VK} (h : tA σ H fun vs H1 => sp vs H1 Q (Ef σ)) : tCallS sp Ef tA σ H Q := h
theorem g_iteT {A B : Prop} (h : A) : if true = true then A else B := h
end Cj
namespace Cj
open PySem PySem.Spec PyProof.Rows L2
theorem kit_self {K : PySem.W.Frag} {D : Addr} : PySem.W.kitOne K (.ref D) (.ref D) = some true := if_pos (beq_self_eq_true _)
theorem kit_other {K : PySem.W.Frag} {D C : Addr} {b : Bool} (hne : (D == C) = false) (hd : PySem.W.hasDictIn K C = true) (ht : PySem.W.typeIn K (.ref C) = some (.type "type")) (h : PySem.W.subIn K (.ref D) (.ref C) = some b) : PySem.W.kitOne K (.ref D) (.ref C) = some b := by
  have e : (Value.ref D == Value.ref C) = false := by
    rw [Bool.eq_false_iff]
    intro z
    have q := Value.ref.inj (beq_iff_eq.mp z)
    rw [q, beq_self_eq_true] at hne
    cases hne
  obtain ⟨cd, hc, _⟩ := PySem.W.any_some hd
  have e2 : ((PySem.W.clsIn K C).isSome && PySem.W.typeIn K (.ref C) == some (.type "type")) = true := by
    rw [hc, ht] <;> rfl
  unfold PySem.W.kitOne
  rw [e, if_neg Bool.false_ne_true]
  show (if _ = true then _ else _) = _
  rw [if_pos e2]
  exact h
theorem kit_type {K : PySem.W.Frag} {D : Addr} {n : String} {b : Bool} (hm : PySem.W.kitMeta n = true) (h : PySem.W.subIn K (.ref D) (.type n) = some b) : PySem.W.kitOne K (.ref D) (.type n) = some b := by
  have e : (Value.ref D == Value.type n) = false := by
    rw [Bool.eq_false_iff]
    intro z
    cases (beq_iff_eq.mp z)
  unfold PySem.W.kitOne
  rw [e, if_neg Bool.false_ne_true]
  show (if _ = true then _ else _) = _
  rw [if_pos hm]
  exact h
section
variable {X : Cx} {k j : Nat} {x : Str} {ps : List Str} {sp : Sp} {e : Expr} {es : List Expr} {t : TA} {p pos : Pos}
/-- a def that may raise, called where it does not -/
theorem pe_calL (c : CalR X.prog X.w X.K X.mg X.base k x ps sp) (hr : Room j X.A) (hk : k ≤ j) (ha : PA X (e :: es) t) (hg : Gl X x := by rfl) (hdb : (x == ("__debug__" : Str)) = false := by decide)
    (he : starEach (e :: es) X.env = (false, eval e X.env) :: starEach es X.env := by rfl) (hpl : (backTo pos (starEach es X.env)).any (·.1) = false := by rfl) :
    PE X (.Call (.Name x p) (e :: es) [] pos) (tCall sp [] E0 t) := by
  obtain ⟨f, fd, F, hm, hkp, hb⟩ := c.ex
  exact pe_call F (hr.mono hk) hg hm hkp hb .nil passL ha hdb he hpl
end
end Cj

namespace Cj
theorem set_more (w : List Int) (k : Nat) (hk : k < w.length) : w.set k (at0 w k + 1) = ofF w.length fun i => at0 w i + one k i := by
  apply List.ext_getElem?
  intro i
  by_cases hi : i < w.length
  · have e2 : (ofF w.length fun i => at0 w i + one k i)[i]? = some (at0 w i + one k i) := by
      unfold ofF
      rw [List.getElem?_map, List.getElem?_range hi]
      rfl
    rw [e2, List.getElem?_set]
    by_cases e : k = i
    · subst e
      rw [if_pos rfl, if_pos hk, one_same]
    · rw [if_neg e, one_ne (fun z => e z.symm), Int.add_zero]
      exact at0_get hi
  · rw [List.getElem?_eq_none (by rw [List.length_set]; omega), List.getElem?_eq_none (by rw [ofF_len]; omega)]
/-- the best way of the amount a -/
def Best (cs : List Int) (a : Int) (ws : List Int) : Prop := ws.length = cs.length ∧ (∀ v ∈ ws, 0 ≤ v) ∧ dot cs ws = a ∧ ∀ us : List Int, us.length = cs.length → (∀ v ∈ us, 0 ≤ v) → dot cs us = a → NotBehind ws us
end Cj
namespace Cj
open PySem PySem.Spec PyProof.Rows L2
section
variable {P : Program} {w : World} {K : PySem.W.Frag} {mg : Str → Option Value} {base : Heap} {R W A G T' C D' E' : Addr} {b1 b2 b3 b4 b5 d1 d2 d3 d4 d5 : Bool}
abbrev s_counted : Stmt := top 12
theorem sc_counted : FnScope ["coins", "amount", "least", "due", "coin"] ["coins", "amount"] (defScope s_counted) := ⟨rfl, rfl, rfl, by decide +kernel, rfl, by decide +kernel, by decide +kernel⟩

def spCounted (K : PySem.W.Frag) : Sp := fun vs H Q _ => ∃ (a : Addr) (cs : List Int) (n : Nat), vs = [.ref a, .int (n : Int)] ∧ SqL K H a (cs.map V.int) ∧ Row cs ∧ n ≤ 400 ∧ ∀ L, Table cs L n → RetL L H Q
theorem ok_counted {f : Addr} {fd : FuncData} (F : Fun K "counted" "counted" s_counted f fd) (T : Bn mg) : FnOk P w K mg base CX0 1 f fd ["coins", "amount"] (spCounted K) := by
  refine F.ok sc_counted (fun vs H Q E h => ?_) (fun cdv A0 outer s H vs Q E hr h => ?_)
  · obtain ⟨a, cs, n, rfl, _⟩ := h
    rfl
  · obtain ⟨a, cs, n, rfl, hA, R, hn, q⟩ := h
    refine ⟨_, (pss_cons (ps_set (i := 2) sc_counted.nd rfl (by first | exact Or.inl rfl | exact Or.inr rfl) (pe_lst (pa_cons pe_int pa_nil)))
      (pss_cons (ps_for PassesOwn.never rfl (pi_range2 rfl T.m_range (pa_cons pe_int (pa_cons (pe_op op_add (pv 1) pe_int) pa_nil))) (pg_name (i := 3) sc_counted.nd rfl (by first | exact Or.inl rfl | exact Or.inr rfl)) (pss_one (ps_expr (pe_bm PySem.F.plainAttrs_list PySem.F.slot_list_append PySem.F.type_list_append mt_append (pv 2) (pa_cons (pe_op op_add pe_int (pe_callB (cr_min rfl) (by rfl) T.m_min (by decide +kernel) (pa_cons (pe_lc (own := [("coin", 4)]) (g := gName 4) (by rfl) sc_counted.nd (pi_list (pv 0)) (blkOk_by (own := [("coin", 4)]) (N := ["coins", "amount", "least", "due", "coin"]) (sc := defScope s_counted) (by decide +kernel)) (fun _ _ _ _ _ => pg_name (i := 4) sc_counted.nd rfl (Or.inl rfl)) (fun _ _ _ _ _ => (pts_one (pt_cmpR op_le (pv 4) (pv 3) (nomark _)))) (fun _ _ _ _ _ => (pe_ix (ix_listK (K := K) rfl) (pv 2) (pe_op op_sub (pv 3) (pv 4)) (fun _ _ => rfl)))) pa_nil))) pa_nil)))))
      (pss_one (ps_ret (pv 2))))), ?_⟩
    try dsimp only [cxOf]
    refine g_start [some (.ref a), some (.int n), none, none, none] rfl ?_
    have R12 := R.len
    have Rne := R.ne
    walk_at "go"
    refine ⟨small_le (by show 1 ≤ 100000; decide), fun l nl => ?_⟩
    walk_at "go"
    refine f_R2 (lo := 1) (n := (n : Int) + 1) (by omega) (fun i σ' H' => ∃ (L : List Int) (x : Option V), σ' = [some (.ref a), some (.int n), some (.ref l), x, none] ∧ Same H H' ∧ H' l = some (LI L) ∧ L.length = i + 1 ∧ (∀ k : Nat, k < i + 1 → IsOpt cs k (L.getD k 0)))
      ⟨[0], none, rfl, same_new nl, upd_same, rfl, fun k hk => ?_⟩ ?_ ?_ ?_
    · have e : k = 0 := by omega
      subst e
      exact opt_zero cs
    · rintro i σ' H' hi ⟨L, x, rfl, sH, hlL, hL, hO⟩
      have ea : (1 : Int) + (i : Int) = ((i + 1 : Nat) : Int) := by omega
      rw [ea]
      walk_at "go"
      refine ⟨.inl ⟨rfl, _, sq_of hlL⟩, ?_⟩
      walk_at "go"
      refine g_lcL (xs := cs.map V.int) (fun j => (prevs L (cs.take j) ((i + 1 : Nat) : Int)).map V.int) rfl (sH.seq hA) (fun _ => rfl) ?_ ?_ ?_
      · intro j z D hz hD hS
        obtain ⟨z', rfl, hz'⟩ := getD_map hz
        have z1 := R.pos _ _ hz'
        have smn := fm_len (fun c => L.getD (((i + 1 : Nat) : Int) - c).toNat 0) (fun c => decide (c ≤ ((i + 1 : Nat) : Int))) (cs.take j)
        rw [List.length_take] at smn
        walk_at "go"
        refine g_iteD (fun hb => ?_) (fun hb => ?_)
        · walk_at "go"
          refine g_ix (sq_of ((same_new hD) _ _ hlL)) (at_intZ (by omega) (by omega)) ?_
          refine lc_end (G := fun j => (prevs L (cs.take j) ((i + 1 : Nat) : Int)).map V.int) (small_lt (by
            rw [LI_len]
            show (fm _ _ _).length < _
            omega)) ?_
          show (fm _ _ (cs.take (j + 1))).map V.int = _
          rw [fm_yes hz' (decide_eq_true hb), List.map_append]
          rfl
        · show upd H' D (.lst ((fm _ _ (cs.take j)).map V.int)) = upd H' D (.lst ((fm _ _ (cs.take (j + 1))).map V.int))
          rw [fm_no hz' (decide_eq_false hb)]
      · intro D hD
        rw [List.length_map, List.take_length]
        generalize gD : upd H' D (.lst ((prevs L cs ((i + 1 : Nat) : Int)).map V.int)) = H4
        have sD := same_of gD hD
        have eD := at_upd gD
        have el := sD _ _ hlL
        walk_at "go"
        refine ⟨D, _, rfl, sq_of eD, prevs_pos R (by omega), fun m hm hle => ?_⟩
        have op := opt_step R (Nat.succ_pos i) hL hO hm hle
        walk_at "go"
        refine g_app el (small_lt (by rw [LI_len]; omega)) ?_
        rw [LI_app]
        refine ⟨L ++ [1 + m], _, rfl, same_mut (sH.trans sD) nl, upd_same, by rw [List.length_append, hL]; rfl, fun k hk => ?_⟩
        by_cases e : k = i + 1
        · subst e
          have gl : (L ++ [1 + m]).getD (i + 1) 0 = 1 + m := by
            rw [List.getD_eq_getElem?_getD, List.getElem?_append_right (by omega), hL, Nat.sub_self]
            rfl
          rw [gl]
          exact op
        · rw [List.getD_eq_getElem?_getD, List.getElem?_append_left (by omega), ← List.getD_eq_getElem?_getD]
          exact hO k (by omega)
      · intro Q' q'
        walk_at "go"
        exact q'
    · rintro σ' H' ⟨L, x, rfl, sH, hlL, hL, hO⟩
      have en : ((n : Int) + 1 - 1).toNat = n := by omega
      rw [en] at hL hO
      walk_at "go"
      exact q L ⟨hL, hO⟩ l H' nl sH hlL
    · intro Q' q'
      walk_at "go"
      exact q'
abbrev s_need_amount : Stmt := top 9
theorem sc_need_amount : FnScope ["amount"] ["amount"] (defScope s_need_amount) := ⟨rfl, rfl, rfl, by decide +kernel, rfl, by decide +kernel, by decide +kernel⟩

def spNeedX (D : Addr) : Sp := fun vs H Q E => ∃ m : Int, vs = [.int m] ∧ ((m < 0 ∨ 10 ^ 80 < m) → E (.ref D) none H) ∧ (0 ≤ m → m ≤ 10 ^ 80 → Q .non H)
theorem ok_needX {f : Addr} {fd : FuncData} {tM : Tok} (F : Fun K "need_amount" "need_amount" s_need_amount f fd) (gc_MOST_AMOUNT : mg "MOST_AMOUNT" = some (.int (10 ^ 80) tM)) (D : ExD K mg R W A G T' C D' "NoAmount" b1 b2 b3 b4 b5) : FnOk P w K mg base (L2.CX P w) 1 f fd ["amount"] (spNeedX D') := by
  refine F.okX sc_need_amount (fun vs H Q E h => ?_) (fun cdv A0 outer s H vs Q E hr h => ?_)
  · obtain ⟨m, rfl, _⟩ := h
    rfl
  · obtain ⟨m, rfl, bad, good⟩ := h
    refine ⟨_, (pss_one (ps_if (PW.pt (pw_or (pt_cmpR op_lt (pv 0) pe_int (nomark _)) (pw_or1 (pt_cmpR op_gt (pv 0) (pe_glob (v := .int _) rfl gc_MOST_AMOUNT ⟨_, rfl⟩) (nomark _))))) (pss_one (ps_raise rfl (takes_of rfl rfl rfl rfl) (pmk_own PySem.F.excBase_ValueError D.ex D.nD D.ki (raises_own D.ri D.rt) rfl))) pss_nil)), ?_⟩
    try dsimp only [cxOf]
    refine g_start [some (.int m)] rfl ?_
    walk_at "go"
    refine g_iteD (fun h0 => ?_) (fun h0 => ?_)
    · refine g_iteT ?_
      exact bad (.inl h0)
    · walk_at "go"
      refine g_iteD (fun h1 => ?_) (fun h1 => ?_)
      · exact bad (.inr h1)
      · walk_at "go"
        exact good (by omega) (by omega)
abbrev s_fewest : Stmt := top 13
theorem sc_fewest : FnScope ["coins", "amount", "least", "way", "coin", "due", "k"] ["coins", "amount"] (defScope s_fewest) := ⟨rfl, rfl, rfl, by decide +kernel, rfl, by decide +kernel, by decide +kernel⟩

def spFew (K : PySem.W.Frag) (D1 D2 : Addr) : Sp := fun vs H Q E => ∃ (a : Addr) (cs : List Int) (m : Int), vs = [.ref a, .int m] ∧ SqL K H a (cs.map V.int) ∧ Row cs ∧ ((m < 0 ∨ 10 ^ 80 < m) → E (.ref D1) none H) ∧ (400 < m → m ≤ 10 ^ 80 → E (.ref D2) none H) ∧ (0 ≤ m → m ≤ 400 → ∀ ws, Best cs m ws → RetL ws H Q)
theorem ok_few {f : Addr} {fd : FuncData} {tM : Tok} (F : Fun K "fewest" "fewest" s_fewest f fd) (T : Bn mg) (gc_MOST_TABLE : mg "MOST_TABLE" = some (.int 400 tM)) (D2 : ExD K mg R W A G T' C E' "TooGreat" b1 b2 b3 b4 b5)
    (r_need_amount : CalR P w K mg base 1 "need_amount" ["amount"] (spNeedX D')) (c_counted : Cal P w K mg base 1 "counted" ["coins", "amount"] (spCounted K)) : FnOk P w K mg base (L2.CX P w) 2 f fd ["coins", "amount"] (spFew K D' E') := by
  refine F.okX sc_fewest (fun vs H Q E h => ?_) (fun cdv A0 outer s H vs Q E hr h => ?_)
  · obtain ⟨a, cs, m, rfl, _⟩ := h
    rfl
  · obtain ⟨a, cs, m, rfl, hA, R, bad1, bad2, good⟩ := h
    refine ⟨_, (pss_cons (ps_expr (pe_calR r_need_amount (takes_of rfl rfl rfl rfl) hr (by decide) (pa_cons (pv 1) pa_nil)))
      (pss_cons (ps_if (pt_cmpR op_gt (pv 1) (pe_glob (v := .int _) rfl gc_MOST_TABLE ⟨_, rfl⟩) (nomark _)) (pss_one (ps_raise rfl (takes_of rfl rfl rfl rfl) (pmk_own PySem.F.excBase_ValueError D2.ex D2.nD D2.ki (raises_own D2.ri D2.rt) rfl))) pss_nil)
      (pss_cons (ps_set (i := 2) sc_fewest.nd rfl (by first | exact Or.inl rfl | exact Or.inr rfl) (pe_cal c_counted hr (by decide) (pa_cons (pv 0) (pa_cons (pv 1) pa_nil))))
      (pss_cons (ps_setLc (i := 3) (own := [("coin", 4)]) (g := gName 4) (tt := tYes) (by rfl) sc_fewest.nd rfl rfl (sw_true rfl rfl rfl (by decide +kernel)) (pi_list (pv 0)) (blkOk_by (own := [("coin", 4)]) (N := ["coins", "amount", "least", "way", "coin", "due", "k"]) (sc := defScope s_fewest) (by decide +kernel)) (fun _ _ _ _ _ => pg_name (i := 4) sc_fewest.nd rfl (Or.inl rfl)) (fun _ _ _ _ _ => pts_nil) (fun _ _ _ _ _ => pe_int))
      (pss_cons (ps_set (i := 5) sc_fewest.nd rfl (by first | exact Or.inl rfl | exact Or.inr rfl) (pv 1))
      (pss_cons (ps_for (passes_of rfl) rfl (pi_range3 rfl T.m_range (pa_cons (pe_op op_sub (pe_callB call_ln (by rfl) T.m_len PySem.boot_len (pa_cons (pv 0) pa_nil)) pe_int) (pa_cons (pe_un un_neg pe_int) (pa_cons (pe_un un_neg pe_int) pa_nil)))) (pg_name (i := 6) sc_fewest.nd rfl (by first | exact Or.inl rfl | exact Or.inr rfl)) (pss_one (ps_while (passes_of rfl) (PW.pt (pw_and (pt_cmpR op_le (pe_ix ix_list (pv 0) (pv 6) (fun _ _ => rfl)) (pv 5) (nomark _)) (pw_and1 (pt_cmpR op_lt (pe_ix ix_list (pv 2) (pe_op op_sub (pv 5) (pe_ix ix_list (pv 0) (pv 6) (fun _ _ => rfl))) (fun _ _ => rfl)) (pe_ix ix_list (pv 2) (pv 5) (fun _ _ => rfl)) (nomark _))))) (pss_cons (ps_asg (pe_op op_add (pe_ix ix_list (pv 3) (pv 6) (fun _ _ => rfl)) pe_int) (pg_sub (pv 3) (pv 6) set_list))
      (pss_one (ps_set (i := 5) sc_fewest.nd rfl (by first | exact Or.inl rfl | exact Or.inr rfl) (pe_op op_sub (pv 5) (pe_ix ix_list (pv 0) (pv 6) (fun _ _ => rfl)))))))))
      (pss_one (ps_ret (pv 3))))))))), ?_⟩
    try dsimp only [cxOf]
    refine g_start [some (.ref a), some (.int m), none, none, none, none, none] rfl ?_
    have R12 := R.len
    have Rne := R.ne
    walk_at "go"
    refine g_callS ?_
    walk_at "go"
    refine ⟨m, rfl, bad1, fun m0 m1 => ?_⟩
    walk_at "go"
    refine g_iteD (fun c => ?_) (fun c => ?_)
    · exact bad2 c m1
    obtain ⟨n, rfl⟩ : ∃ n : Nat, m = (n : Int) := ⟨m.toNat, by omega⟩
    walk_at "go"
    refine ⟨a, cs, n, rfl, hA, R, by omega, fun L B l H1 nl s1 e1 => ?_⟩
    have hA1 := s1.seq hA
    walk_at "go"
    refine g_lcL (xs := cs.map V.int) (fun i => List.replicate i (V.int 0)) rfl hA1 (fun _ => rfl) ?_ ?_ ?_
    · intro i x D hi hD hS
      have hi' : i < cs.length := by
        have z := (List.getElem?_eq_some_iff.mp hi).1
        rw [List.length_map] at z
        exact z
      walk_at "go"
      exact lc_end (G := fun i => List.replicate i (V.int 0)) (small_lt (by rw [List.length_replicate]; omega)) List.replicate_succ'
    · intro p hp
      have e0 : (upd H1 p (.lst (List.replicate (cs.map V.int).length (V.int 0)))) = upd H1 p (LI (List.replicate cs.length 0)) := by
        rw [List.length_map]
        show _ = upd H1 p (.lst ((List.replicate cs.length (0 : Int)).map V.int))
        rw [List.map_replicate]
      rw [e0]
      have hA2 : ∀ o, SqL K (upd H1 p o) a (cs.map V.int) := fun o => (same_new hp).seq hA1
      have nlp : l ≠ p := ne_of_none e1 hp
      have hL2 : ∀ o, SqL K (upd H1 p o) l (L.map V.int) := fun o => sq_of (by rw [upd_ne nlp]; exact e1)
      have lenL := B.1
      walk_at "go"
      refine f_Dn (n := cs.length) (by omega) (fun k σ' H' => ∃ (w : List Int) (d : Nat) (v : Option V), σ' = [some (.ref a), some (.int n), some (.ref l), some (.ref p), none, some (.int d), v] ∧ H' = upd H1 p (LI w) ∧ Taken cs L n k w d) ⟨_, n, none, rfl, rfl, taken_start⟩ ?_ ?_ ?_
      · rintro k σ' H' hk ⟨w0, d0, v, rfl, rfl, T0⟩
        have ek := List.getElem?_eq_getElem hk
        have ck := R.pos _ _ ek
        obtain ⟨c, hc⟩ : ∃ c : Nat, cs[k] = (c : Int) := ⟨cs[k].toNat, by omega⟩
        have hc0 : at0 cs k = (c : Int) := by rw [at0_of ek, hc]
        refine ⟨fun mm σ' H' => ∃ (w : List Int) (d : Nat), σ' = [some (.ref a), some (.int n), some (.ref l), some (.ref p), none, some (.int d), some (.int k)] ∧ H' = upd H1 p (LI w) ∧ Taking cs L n k w d ∧ mm = d, ⟨d0, w0, d0, rfl, rfl, T0.begin, rfl⟩, ?_⟩
        rintro mm σ' H' ⟨w, d, rfl, rfl, Tk, rfl⟩
        have dn := Tk.le
        have wl := Tk.way.len
        walk_at "go"
        refine g_ix (hA2 _) (at_val ek) ?_
        rw [hc]
        walk_at "go"
        refine g_iteD (fun le => ?_) (fun le => ?_)
        · walk_at "go"
          refine g_ix (hA2 _) (at_val ek) ?_
          rw [hc]
          walk_at "go"
          rw [show (mm : Int) - (c : Int) = ((mm - c : Nat) : Int) by omega]
          refine g_ix (hL2 _) (at_int (by omega)) ?_
          walk_at "go"
          refine g_ix (hL2 _) (at_int (by omega)) ?_
          walk_at "go"
          refine g_iteD (fun lt => ?_) (fun lt => ?_)
          · refine ⟨fun σ2 H2 => σ2 = [some (.ref a), some (.int n), some (.ref l), some (.ref p), none, some (.int ((mm - c : Nat) : Int)), some (.int k)] ∧ H2 = upd H1 p (LI (ofF cs.length fun i => at0 w i + one k i)), ?_, ?_⟩
            · rintro σ2 H2 ⟨rfl, rfl⟩
              exact ⟨mm - c, by omega, _, _, rfl, rfl, Tk.step R B hk hc0 (by omega) lt, rfl⟩
            · walk_at "go"
              refine g_ix (sq_of upd_same) (at_val (at0_get (by omega))) ?_
              walk_at "go"
              refine g_setL upd_same (ixN_nat (j := k) (by rw [LI_len]; omega)) ?_
              rw [LI_set, upd_upd, set_more w k (by omega), wl]
              walk_at "go"
              refine g_ix (hA2 _) (at_val ek) ?_
              rw [hc]
              walk_at "go"
              rw [show (mm : Int) - (c : Int) = ((mm - c : Nat) : Int) by omega]
              exact ⟨rfl, rfl⟩
          · exact ⟨w, mm, _, rfl, rfl, Tk.done R B hk hc0 (.inr (by omega))⟩
        · exact ⟨w, mm, _, rfl, rfl, Tk.done R B hk hc0 (.inl (by omega))⟩
      · rintro σ' H' ⟨w, d, v, rfl, rfl, T0⟩
        walk_at "go"
        obtain ⟨Y, all⟩ := T0.all B
        exact good (by omega) (by omega) w ⟨Y.len, Y.nn, Y.worth, all⟩ p _ (s1.free hp) (s1.trans (same_new hp)) upd_same
      · intro Q' q'
        walk_at "go"
        refine g_lnI (hA2 _) ?_
        walk_at "go"
        exact q'
    · intro Q' q'
      walk_at "go"
      exact q'
end
end Cj

namespace Cj
open PySem PySem.Spec PyProof.Rows L2
section
variable {P : Program} {w : World} {K : PySem.W.Frag} {mg : Str → Option Value} {base : Heap}
abbrev s__law_cell_at : Stmt := top 16
theorem sc__law_cell_at : FnScope ["_law_script", "_law_k"] ["_law_script", "_law_k"] (defScope s__law_cell_at) := ⟨rfl, rfl, rfl, by decide +kernel, rfl, by decide +kernel, by decide +kernel⟩

def cellAt (ns : List Int) (k : Int) : Int := ns.getD k.toNat 0
def spCell (K : PySem.W.Frag) : Sp := fun vs H Q _ => ∃ (a : Addr) (ns : List Int) (k : Int), vs = [.ref a, .int k] ∧ SqL K H a (ns.map V.int) ∧ 0 ≤ k ∧ Q (.int (cellAt ns k)) H
theorem ok_cell {f : Addr} {fd : FuncData} (F : Fun K "_law_cell_at" "_law_cell_at" s__law_cell_at f fd) (T : Bn mg) : FnOk P w K mg base CX0 1 f fd ["_law_script", "_law_k"] (spCell K) := by
  refine F.ok sc__law_cell_at (fun vs H Q E h => ?_) (fun cdv A outer s H vs Q E hr h => ?_)
  · obtain ⟨a, ns, k, rfl, _⟩ := h
    rfl
  · obtain ⟨a, ns, k, rfl, hA, h0, q⟩ := h
    refine ⟨_, (pss_cons (ps_if (pt_cmpR op_lt (pv 1) (pe_callB call_ln (by rfl) T.m_len PySem.boot_len (pa_cons (pv 0) pa_nil)) (nomark _)) (pss_one (ps_ret (pe_ix ix_list (pv 0) (pv 1) (fun _ _ => rfl)))) pss_nil)
      (pss_one (ps_ret pe_int))), ?_⟩
    try dsimp only [cxOf]
    refine g_start [some (.ref a), some (.int k)] rfl ?_
    walk_at "go"
    refine g_iteD (fun hk => ?_) (fun hk => ?_)
    · walk_at "go"
      refine g_ix hA (at_intZ h0 hk) ?_
      walk_at "go"
      exact q
    · walk_at "go"
      have e : cellAt ns k = 0 := by
        unfold cellAt
        rw [List.getD_eq_getElem?_getD, List.getElem?_eq_none (by omega)]
        rfl
      rw [← e]
      exact q
end
end Cj

namespace Cj
open PySem PySem.Spec PyProof.Rows L2
section
variable {P : Program} {w : World} {K : PySem.W.Frag} {mg : Str → Option Value} {base : Heap}
abbrev s__law_whole : Stmt := top 15
theorem sc__law_whole : FnScope ["_law_found"] ["_law_found"] (defScope s__law_whole) := ⟨rfl, rfl, rfl, by decide +kernel, rfl, by decide +kernel, by decide +kernel⟩

def spWhole : Sp := fun vs H Q _ => ∃ i : Int, vs = [.int i] ∧ Q (.bl true) H
theorem ok_whole {f : Addr} {fd : FuncData} (F : Fun K "_law_whole" "_law_whole" s__law_whole f fd) (T : Bn mg) : FnOk P w K mg base CX0 1 f fd ["_law_found"] spWhole := by
  refine F.ok sc__law_whole (fun vs H Q E h => ?_) (fun cdv A outer s H vs Q E hr h => ?_)
  · obtain ⟨i, rfl, _⟩ := h
    rfl
  · obtain ⟨i, rfl, q⟩ := h
    refine ⟨_, (pss_one (ps_ret (pe_and (pe_callB call_isi (by rfl) T.m_isinstance (by decide +kernel) (pa_cons (pv 0) (pa_cons (pe_bltn (v := .ty "int") rfl T.m_int (by decide +kernel) rfl) pa_nil))) (pe_one (pe_not (pe_callB call_isi (by rfl) T.m_isinstance (by decide +kernel) (pa_cons (pv 0) (pa_cons (pe_bltn (v := .ty "bool") rfl T.m_bool (by decide +kernel) rfl) pa_nil)))))))), ?_⟩
    try dsimp only [cxOf]
    refine g_start [some (.int i)] rfl ?_
    walk_at "go"
    exact q
end
end Cj

namespace Cj
open PySem PySem.Spec PyProof.Rows L2
section
variable {P : Program} {w : World} {K : PySem.W.Frag} {mg : Str → Option Value} {base : Heap}
abbrev s__law_greatest_first : Stmt := top 20
theorem sc__law_greatest_first : FnScope ["_law_row", "_law_amount", "_law_way", "_law_k"] ["_law_row", "_law_amount"] (defScope s__law_greatest_first) := ⟨rfl, rfl, rfl, by decide +kernel, rfl, by decide +kernel, by decide +kernel⟩

def spGF (K : PySem.W.Frag) : Sp := fun vs H Q _ => ∃ (a : Addr) (cs : List Int) (m : Int), vs = [.ref a, .int m] ∧ SqL K H a (cs.map V.int) ∧ Row cs ∧ RetL (fw cs m) H Q
theorem ok_gf {f : Addr} {fd : FuncData} (F : Fun K "_law_greatest_first" "_law_greatest_first" s__law_greatest_first f fd) (T : Bn mg) : FnOk P w K mg base CX0 1 f fd ["_law_row", "_law_amount"] (spGF K) := by
  refine F.ok sc__law_greatest_first (fun vs H Q E h => ?_) (fun cdv A outer s H vs Q E hr h => ?_)
  · obtain ⟨a, cs, m, rfl, _⟩ := h
    rfl
  · obtain ⟨a, cs, m, rfl, hA, R, q⟩ := h
    refine ⟨_, (pss_cons (ps_set (i := 2) sc__law_greatest_first.nd rfl (by first | exact Or.inl rfl | exact Or.inr rfl) (pe_lst pa_nil))
      (pss_cons (ps_for PassesOwn.never rfl (pi_range3 rfl T.m_range (pa_cons (pe_op op_sub (pe_callB call_ln (by rfl) T.m_len PySem.boot_len (pa_cons (pv 0) pa_nil)) pe_int) (pa_cons (pe_un un_neg pe_int) (pa_cons (pe_un un_neg pe_int) pa_nil)))) (pg_name (i := 3) sc__law_greatest_first.nd rfl (by first | exact Or.inl rfl | exact Or.inr rfl)) (pss_cons (ps_expr (pe_bm PySem.F.plainAttrs_list PySem.F.slot_list_append PySem.F.type_list_append mt_append (pv 2) (pa_cons (pe_op op_fdivW (pv 1) (pe_ix ix_list (pv 0) (pv 3) (fun _ _ => rfl))) pa_nil)))
      (pss_one (ps_set (i := 1) sc__law_greatest_first.nd rfl (by first | exact Or.inl rfl | exact Or.inr rfl) (pe_op op_mod (pv 1) (pe_ix ix_list (pv 0) (pv 3) (fun _ _ => rfl)))))))
      (pss_cons (ps_expr (pe_bm0 PySem.F.plainAttrs_list PySem.F.slot_list_reverse PySem.F.type_list_reverse mt_reverse (pv 2)))
      (pss_one (ps_ret (pv 2)))))), ?_⟩
    try dsimp only [cxOf]
    refine g_start [some (.ref a), some (.int m), none, none] rfl ?_
    walk_at "go"
    refine ⟨Nat.zero_le _, fun p hp => ?_⟩
    have hlen := R.len
    have hA1 : ∀ xs, SqL K (upd H p (.lst xs)) a (cs.map V.int) := fun xs => (same_new hp).seq hA
    walk_at "go"
    refine f_Dn (n := cs.length) (by omega) (fun k σ' H' => ∃ v, σ' = [some (.ref a), some (.int (rs (cs.drop k) m)), some (.ref p), v] ∧ H' = upd H p (LI (fw (cs.drop k) m).reverse)) ⟨none, ?_, ?_⟩ ?_ ?_ ?_
    · rw [List.drop_length]
      rfl
    · rw [List.drop_length]
      rfl
    · rintro k σ' H' hk ⟨v, rfl, rfl⟩
      have e1 := List.getElem?_eq_getElem hk
      have p1 := R.pos _ _ e1
      have p2 := R.top _ (List.getElem_mem hk)
      have lf := fw_length (cs.drop (k + 1)) m
      rw [List.length_drop] at lf
      walk_at "go"
      refine ⟨.inl ⟨rfl, _, sq_of upd_same⟩, ?_⟩
      walk_at "go"
      refine g_ix (hA1 _) (at_val e1) ?_
      walk_at "go"
      refine g_I (wide_div (b := 300) (by omega) (by omega) (by decide) (by decide)) ?_
      walk_at "go"
      refine g_app upd_same (small_lt (by rw [LI_len, List.length_reverse]; omega)) ?_
      rw [LI_app, upd_upd]
      walk_at "go"
      refine g_ix (hA1 _) (at_val e1) ?_
      walk_at "go"
      refine g_I (by show (0 : Int) < _; omega) ?_
      walk_at "go"
      rw [drop_at e1]
      refine ⟨_, rfl, ?_⟩
      show _ = upd H p (LI (rs (cs.drop (k + 1)) m / cs[k] :: fw (cs.drop (k + 1)) m).reverse)
      rw [List.reverse_cons]
    · rintro σ' H' ⟨v, rfl, rfl⟩
      walk_at "go"
      refine ⟨.inl ⟨rfl, _, sq_of upd_same⟩, ?_⟩
      refine ⟨p, _, rfl, rfl, upd_same, ?_⟩
      rw [upd_upd]
      walk_at "go"
      refine q p _ hp (same_new hp) ?_
      rw [upd_same, ← List.map_reverse, List.reverse_reverse]
      rfl
    · intro Q' q'
      walk_at "go"
      refine g_lnI (hA1 _) ?_
      walk_at "go"
      exact q'
end
end Cj

namespace Cj
open PySem PySem.Spec PyProof.Rows L2
section
variable {P : Program} {w : World} {K : PySem.W.Frag} {mg : Str → Option Value} {base : Heap}
abbrev s__law_worth : Stmt := top 21
theorem sc__law_worth : FnScope ["_law_row", "_law_way", "_law_total", "_law_k"] ["_law_row", "_law_way"] (defScope s__law_worth) := ⟨rfl, rfl, rfl, by decide +kernel, rfl, by decide +kernel, by decide +kernel⟩

def spLW (K : PySem.W.Frag) : Sp := fun vs H Q _ => ∃ (a b : Addr) (cs ws : List Int), vs = [.ref a, .ref b] ∧ SqL K H a (cs.map V.int) ∧ SqL K H b (ws.map V.int) ∧ ws.length = cs.length ∧ cs.length ≤ 1000 ∧
  (∀ c ∈ cs, c.natAbs < 2 ^ 300) ∧ (∀ v ∈ ws, v.natAbs < 2 ^ 300) ∧ Q (.int (dot cs ws)) H
theorem ok_lw {f : Addr} {fd : FuncData} (F : Fun K "_law_worth" "_law_worth" s__law_worth f fd) (T : Bn mg) : FnOk P w K mg base CX0 1 f fd ["_law_row", "_law_way"] (spLW K) := by
  refine F.ok sc__law_worth (fun vs H Q E h => ?_) (fun cdv A outer s H vs Q E hr h => ?_)
  · obtain ⟨a, b, cs, ws, rfl, _⟩ := h
    rfl
  · obtain ⟨a, b, cs, ws, rfl, hA, hB, hl, hn, hc, hw, q⟩ := h
    refine ⟨_, (pss_cons (ps_set (i := 2) sc__law_worth.nd rfl (by first | exact Or.inl rfl | exact Or.inr rfl) pe_int)
      (pss_cons (ps_for PassesOwn.never rfl (pi_range1 rfl T.m_range (pa_cons (pe_callB call_ln (by rfl) T.m_len PySem.boot_len (pa_cons (pv 0) pa_nil)) pa_nil)) (pg_name (i := 3) sc__law_worth.nd rfl (by first | exact Or.inl rfl | exact Or.inr rfl)) (pss_one (ps_set (i := 2) sc__law_worth.nd rfl (by first | exact Or.inl rfl | exact Or.inr rfl) (pe_op op_add (pv 2) (pe_op op_mulW (pe_ix ix_list (pv 0) (pv 3) (fun _ _ => rfl)) (pe_ix ix_list (pv 1) (pv 3) (fun _ _ => rfl)))))))
      (pss_one (ps_ret (pv 2))))), ?_⟩
    try dsimp only [cxOf]
    refine g_start [some (.ref a), some (.ref b), none, none] rfl ?_
    walk_at "go"
    refine f_R1 (n := cs.length) (by omega) (fun i σ' H' => ∃ v, σ' = [some (.ref a), some (.ref b), some (.int (dot (cs.take i) (ws.take i))), v] ∧ H' = H) ⟨none, rfl, rfl⟩ ?_ ?_ ?_
    · rintro i σ' H' hi ⟨v, rfl, rfl⟩
      have h1 : i < cs.length := by omega
      have h2 : i < ws.length := by omega
      have e1 := List.getElem?_eq_getElem h1
      have e2 := List.getElem?_eq_getElem h2
      walk_at "go"
      refine g_ix hA (at_val e1) ?_
      walk_at "go"
      refine g_ix hB (at_val e2) ?_
      walk_at "go"
      refine g_I (wide_mul (hc _ (List.getElem_mem h1)) (hw _ (List.getElem_mem h2)) (by decide) (by decide) (by decide)) ?_
      walk_at "go"
      exact ⟨_, by rw [dot_take e1 e2]; rfl, rfl⟩
    · rintro σ' H' ⟨v, rfl, rfl⟩
      walk_at "go"
      have e1 : cs.take (cs.length : Int).toNat = cs := List.take_of_length_le (by omega)
      have e2 : ws.take (cs.length : Int).toNat = ws := List.take_of_length_le (by omega)
      rw [e1, e2]
      exact q
    · intro Q' q'
      walk_at "go"
      exact q'
end
end Cj

namespace Cj
theorem dot_set : ∀ {cs ws : List Int} {k : Nat} {c y : Int} (x : Int), cs[k]? = some c → ws[k]? = some y → dot cs (ws.set k x) = dot cs ws + (x - y) * c
  | [], _, _, _, _, _, h, _ => by simp at h
  | _ :: _, [], _, _, _, _, _, h => by simp at h
  | a :: cs, b :: ws, 0, c, y, x, h1, h2 => by
    have e1 : a = c := Option.some.inj h1
    have e2 : b = y := Option.some.inj h2
    subst e1 e2
    show a * x + dot cs ws = a * b + dot cs ws + (x - b) * a
    rw [Int.sub_mul, Int.mul_comm a x, Int.mul_comm a b]
    omega
  | a :: cs, b :: ws, k + 1, c, y, x, h1, h2 => by
    have ih := dot_set (cs := cs) (ws := ws) (k := k) x h1 h2
    show a * b + dot cs (ws.set k x) = a * b + dot cs ws + (x - y) * c
    rw [ih]
    omega
/-- a way worth at most 400 -/
structure Small (cs ws : List Int) (left : Int) : Prop where
  len : ws.length = cs.length
  nn : ∀ v ∈ ws, 0 ≤ v
  sum : dot cs ws + left ≤ 400
theorem small_start (cs : List Int) {left : Int} (h : left ≤ 400) : Small cs (List.replicate cs.length 0) left where
  len := List.length_replicate
  nn := fun v hv => by rw [(List.mem_replicate.mp hv).2]; exact Int.le_refl _
  sum := by
    have z := dot_zeros cs.length cs []
    rw [List.append_nil, List.drop_length] at z
    have y : dot ([] : List Int) [] = 0 := rfl
    omega
theorem Small.put {cs ws : List Int} {left c y x left2 : Int} {k : Nat} (S : Small cs ws left) (h1 : cs[k]? = some c) (h2 : ws[k]? = some y) (hx : 0 ≤ x) (hs : (x - y) * c + left2 ≤ left) : Small cs (ws.set k x) left2 where
  len := by rw [List.length_set]; exact S.len
  nn := fun v hv => by
    rcases List.mem_or_eq_of_mem_set hv with h | h
    · exact S.nn v h
    · rw [h]
      exact hx
  sum := by
    have := dot_set x h1 h2
    have := S.sum
    omega
theorem Small.top {cs ws : List Int} {left : Int} (R : Row cs) (S : Small cs ws left) (hl : 0 ≤ left) : ∀ v ∈ ws, v ≤ 400 := fun v hv => by
  obtain ⟨k, hk⟩ := List.mem_iff_getElem?.mp hv
  have kl := (List.getElem?_eq_some_iff.mp hk).1
  have nn := nn_list S.nn
  rw [S.len] at nn
  have z := sm_ge (f := fun i => at0 ws i * at0 cs i) (show k < cs.length by rw [← S.len]; exact kl) (W_parts R.coins nn)
  have c1 := R.coins.ge (k := k) (by rw [← S.len]; exact kl)
  have e : at0 ws k = v := at0_of hk
  have d := dot_all S.len
  have z2 : at0 ws k * at0 cs k ≤ dot cs ws := by rw [d]; exact z
  rw [e] at z2
  have v0 := S.nn v hv
  have m : v * 1 ≤ v * at0 cs k := Int.mul_le_mul_of_nonneg_left c1 v0
  have := S.sum
  omega
end Cj
namespace Cj
open PySem PySem.Spec PyProof.Rows L2
/-- * of two factors of together less than a hundred million bits -/
def CMulX (i j : Int) : Prop := i.natAbs.log2 + j.natAbs.log2 < 100000000
theorem op_mulX {X : Cx} : OpR X (binaryOp .Mult) (rI CMulX fun i j => .int (i * j)) := opI fun i j _ _ _ _ _ hc q => mul_int q (by
  have up : ∀ x : Int, Builtin.Int.intBits x ≤ x.natAbs.log2 + 1 := fun x => by
    unfold Builtin.Int.intBits
    split <;> omega
  have hi := up i
  have hj := up j
  have both : i.natAbs.log2 + j.natAbs.log2 < 100000000 := hc
  have line : bitsLine = 134217728 := by decide
  unfold IntMulOk
  intro big
  rw [Bool.and_eq_true] at big
  have big2 := big.2
  unfold Builtin.Int.intTooBig at big2
  have big3 := of_decide_eq_true big2
  rw [line] at big3
  omega)
theorem log2_le {x y : Nat} (h : y ≤ x) : y.log2 ≤ x.log2 := by
  by_cases y0 : y = 0
  · rw [y0]
    exact Nat.zero_le _
  · exact (Nat.le_log2 (by omega)).2 (Nat.le_trans (Nat.log2_self_le y0) h)
section
variable {P : Program} {w : World} {K : PySem.W.Frag} {mg : Str → Option Value} {base : Heap} {R W A G T' C D' E' : Addr} {b1 b2 b3 b4 b5 d1 d2 d3 d4 d5 : Bool}
abbrev s__law_row_by : Stmt := top 17
theorem sc__law_row_by : FnScope ["_law_script", "_law_row", "_law_k", "_law_cell", "_law_more", "_law_last", "_law_coin"] ["_law_script"] (defScope s__law_row_by) := ⟨rfl, rfl, rfl, by decide +kernel, rfl, by decide +kernel, by decide +kernel⟩

def spRowBy (K : PySem.W.Frag) : Sp := fun vs H Q _ => ∃ (a : Addr) (ns : List Int), vs = [.ref a] ∧ SqL K H a (ns.map V.int) ∧ ∀ cs, Row cs → RetL cs H Q
theorem ok_rowBy {f : Addr} {fd : FuncData} (F : Fun K "_law_row_by" "_law_row_by" s__law_row_by f fd) (T : Bn mg) (c__law_cell_at : Cal P w K mg base 1 "_law_cell_at" ["_law_script", "_law_k"] (spCell K)) :
    FnOk P w K mg base CX0 2 f fd ["_law_script"] (spRowBy K) := by
  refine F.ok sc__law_row_by (fun vs H Q E h => ?_) (fun cdv A0 outer s H vs Q E hr h => ?_)
  · obtain ⟨a, ns, rfl, _⟩ := h
    rfl
  · obtain ⟨a, ns, rfl, hA, q⟩ := h
    refine ⟨_, (pss_cons (ps_set (i := 1) sc__law_row_by.nd rfl (by first | exact Or.inl rfl | exact Or.inr rfl) (pe_lst (pa_cons pe_int pa_nil)))
      (pss_cons (ps_for PassesOwn.never rfl (pi_range1 rfl T.m_range (pa_cons (pe_op op_mod (pe_cal c__law_cell_at hr (by decide) (pa_cons (pv 0) (pa_cons pe_int pa_nil))) pe_int) pa_nil)) (pg_name (i := 2) sc__law_row_by.nd rfl (by first | exact Or.inl rfl | exact Or.inr rfl)) (pss_cons (ps_set (i := 3) sc__law_row_by.nd rfl (by first | exact Or.inl rfl | exact Or.inr rfl) (pe_cal c__law_cell_at hr (by decide) (pa_cons (pv 0) (pa_cons (pe_op op_add pe_int (pv 2)) pa_nil))))
      (pss_cons (ps_set (i := 4) sc__law_row_by.nd rfl (by first | exact Or.inl rfl | exact Or.inr rfl) (pe_op op_fdiv (pv 3) pe_int))
      (pss_cons (ps_set (i := 5) sc__law_row_by.nd rfl (by first | exact Or.inl rfl | exact Or.inr rfl) (pe_ix ix_list (pv 1) (pe_un un_neg pe_int) (fun _ _ => rfl)))
      (pss_cons (ps_set (i := 6) sc__law_row_by.nd rfl (by first | exact Or.inl rfl | exact Or.inr rfl) (pe_op op_add (pe_op op_add (pv 5) pe_int) (pe_op op_mod (pv 4) pe_int)))
      (Evl.pss_cut (ps_if (PW.pt (pw_or (pt_cmpR op_eq (pe_op op_mod (pv 3) pe_int) pe_int (nomark _)) (pw_or1 (pt_cmpR op_eq (pe_op op_mod (pe_op op_fdiv (pe_cal c__law_cell_at hr (by decide) (pa_cons (pv 0) (pa_cons pe_int pa_nil))) pe_int) pe_int) pe_int (nomark _))))) (pss_one (ps_set (i := 6) sc__law_row_by.nd rfl (by first | exact Or.inl rfl | exact Or.inr rfl) (pe_op op_add (pe_op op_add (pv 5) pe_int) (pe_op op_mod (pv 4) pe_int)))) (pss_one (ps_if (pt_cmpR op_eq (pe_op op_mod (pv 3) pe_int) pe_int (nomark _)) (pss_one (ps_set (i := 6) sc__law_row_by.nd rfl (by first | exact Or.inl rfl | exact Or.inr rfl) (pe_op op_sub (pe_op op_mul (pv 5) (pe_op op_add pe_int (pe_op op_mod (pv 4) pe_int))) pe_int))) (pss_one (ps_if (pt_cmpR op_eq (pe_op op_mod (pv 3) pe_int) pe_int (nomark _)) (pss_one (ps_set (i := 6) sc__law_row_by.nd rfl (by first | exact Or.inl rfl | exact Or.inr rfl) (pe_op op_add (pe_op op_add (pv 5) pe_int) (pe_op op_mod (pv 4) pe_int)))) (pss_one (ps_if (pt_cmpR op_eq (pe_op op_mod (pv 3) pe_int) pe_int (nomark _)) (pss_one (ps_set (i := 6) sc__law_row_by.nd rfl (by first | exact Or.inl rfl | exact Or.inr rfl) (pe_op op_mul (pv 5) (pe_op op_add pe_int (pe_op op_mod (pv 4) pe_int))))) (pss_one (ps_if (PW.pt (pw_and (pt_cmpR op_eq (pe_op op_mod (pv 3) pe_int) pe_int (nomark _)) (pw_and1 (pt_cmpR op_eq (pe_op op_mod (pv 4) pe_int) pe_int (nomark _))))) (pss_one (ps_set (i := 6) sc__law_row_by.nd rfl (by first | exact Or.inl rfl | exact Or.inr rfl) (pe_op op_add (pe_op op_mul (pv 5) (pe_op op_add pe_int (pe_op op_mod (pe_op op_fdiv (pv 4) pe_int) (pe_op op_add (pe_op op_pow pe_int pe_int) pe_int)))) (pe_op op_mod (pe_op op_fdiv (pv 4) pe_int) (pv 5))))) pss_nil)))))))))
      (pss_one (ps_if (PW.pt (pw_and (pt_cmpR op_lt (pv 5) (pv 6) (nomark _)) (pw_and1 (pt_cmpR op_le (pv 6) (pe_op op_pow pe_int pe_int) (nomark _))))) (pss_one (ps_expr (pe_bm PySem.F.plainAttrs_list PySem.F.slot_list_append PySem.F.type_list_append mt_append (pv 1) (pa_cons (pv 6) pa_nil)))) pss_nil))))))))
      (pss_one (ps_ret (pv 1))))), ?_⟩
    try dsimp only [cxOf]
    refine g_start [some (.ref a), none, none, none, none, none, none] rfl ?_
    walk_at "go"
    refine ⟨(by show 1 ≤ sizeLine; decide), fun p hp => ?_⟩
    have hA1 : ∀ xs, SqL K (upd H p (.lst xs)) a (ns.map V.int) := fun xs => (same_new hp).seq hA
    walk_at "go"
    have m0 := Int.emod_nonneg (cellAt ns 0) (show (12 : Int) ≠ 0 by decide)
    have m1 := Int.emod_lt_of_pos (cellAt ns 0) (show (0 : Int) < 12 by decide)
    refine f_R1 (n := cellAt ns 0 % 12) (by omega) (fun i σ' H' => ∃ v2 v3 v4 v5 v6 cs, σ' = [some (.ref a), some (.ref p), v2, v3, v4, v5, v6] ∧ H' = upd H p (LI cs) ∧ Row cs ∧ cs.length ≤ i + 1) ⟨_, _, _, _, _, [1], rfl, rfl, row_one, Nat.le_refl _⟩ ?_ ?_ ?_
    · rintro i σ' H' hi ⟨v2, v3, v4, v5, v6, cs, rfl, rfl, R, hlen⟩
      obtain ⟨last, hlast⟩ : ∃ x, cs[cs.length - 1]? = some x := ⟨_, List.getElem?_eq_getElem (by have := R.ne; omega)⟩
      have hpos := R.pos _ _ hlast
      walk_at "go"
      refine ⟨a, ns, _, rfl, hA1 _, by omega, ?_⟩
      generalize cellAt ns (3 + (i : Int)) = cell
      walk_at "go"
      refine g_ix (sq_of upd_same) (at_neg1 hlast) ?_
      walk_at "go"
      refine g_cut (fun σ' H' => ∃ coin : Int, σ' = [some (.ref a), some (.ref p), some (.int i), some (.int cell), some (.int (cell / 6)), some (.int last), some (.int coin)] ∧ H' = upd H p (LI cs)) ?_ ?_
      · walk_at "go"
        refine g_iteD (fun _ => ?_) (fun _ => ?_)
        · walk_at "go"
          exact ⟨_, rfl, rfl⟩
        walk_at "go"
        refine ⟨a, ns, _, rfl, hA1 _, by omega, ?_⟩
        walk_at "go"
        refine g_iteD (fun _ => ?_) (fun _ => ?_)
        · walk_at "go"
          exact ⟨_, rfl, rfl⟩
        walk_at "go"
        refine g_iteD (fun _ => ?_) (fun _ => ?_)
        · walk_at "go"
          refine g_I (.inr (by omega)) ?_
          walk_at "go"
          exact ⟨_, rfl, rfl⟩
        walk_at "go"
        refine g_iteD (fun _ => ?_) (fun _ => ?_)
        · walk_at "go"
          exact ⟨_, rfl, rfl⟩
        walk_at "go"
        refine g_iteD (fun _ => ?_) (fun _ => ?_)
        · walk_at "go"
          refine g_I (.inr (by omega)) ?_
          walk_at "go"
          exact ⟨_, rfl, rfl⟩
        walk_at "go"
        refine g_iteD (fun _ => ?_) (fun _ => ?_)
        · walk_at "go"
          refine g_iteD (fun _ => ?_) (fun _ => ?_)
          · walk_at "go"
            have z : (0 : Int) < 10 ^ (15 : Int).toNat + 37 := by decide
            have z1 := Int.emod_nonneg (cell / 6 / 3) (show (10 ^ (15 : Int).toNat + 37 : Int) ≠ 0 by decide)
            have z2 := Int.emod_lt_of_pos (cell / 6 / 3) z
            have z3 : (10 ^ (15 : Int).toNat + 37 : Int) < 2 ^ 60 := by decide
            refine g_I (.inr (by omega)) ?_
            walk_at "go"
            refine g_I (by show (0 : Int) < _; omega) ?_
            walk_at "go"
            exact ⟨_, rfl, rfl⟩
          · walk_at "go"
            exact ⟨_, rfl, rfl⟩
        · walk_at "go"
          exact ⟨_, rfl, rfl⟩
      rintro σ' H' ⟨coin, rfl, rfl⟩
      walk_at "go"
      refine g_iteD (fun c1 => ?_) (fun _ => ?_)
      · walk_at "go"
        refine g_iteD (fun c2 => ?_) (fun _ => ?_)
        · walk_at "go"
          refine ⟨.inl ⟨rfl, _, sq_of upd_same⟩, ?_⟩
          walk_at "go"
          refine g_app upd_same (small_lt (by rw [LI_len]; omega)) ?_
          rw [LI_app, upd_upd]
          walk_at "go"
          exact ⟨_, _, _, _, _, _, rfl, rfl, R.more hlast c1 c2 (by omega), by rw [List.length_append]; show cs.length + 1 ≤ _; omega⟩
        · walk_at "go"
          exact ⟨_, _, _, _, _, _, rfl, rfl, R, by omega⟩
      · walk_at "go"
        exact ⟨_, _, _, _, _, _, rfl, rfl, R, by omega⟩
    · rintro σ' H' ⟨v2, v3, v4, v5, v6, cs, rfl, rfl, R, hlen⟩
      walk_at "go"
      exact q cs R p _ hp (same_new hp) upd_same
    · intro Q' q'
      walk_at "go"
      refine ⟨a, ns, 0, rfl, hA1 _, by omega, ?_⟩
      walk_at "go"
      exact q'
abbrev s__law_few : Stmt := top 18
theorem sc__law_few : FnScope ["_law_script", "_law_row", "_law_many", "_law_way", "_law_coin", "_law_left", "_law_k", "_law_at"] ["_law_script", "_law_row", "_law_many"] (defScope s__law_few) := ⟨rfl, rfl, rfl, by decide +kernel, rfl, by decide +kernel, by decide +kernel⟩

def spFewWay (K : PySem.W.Frag) : Sp := fun vs H Q _ => ∃ (a r : Addr) (ns cs : List Int) (m : Int), vs = [.ref a, .ref r, .int m] ∧ SqL K H a (ns.map V.int) ∧ SqL K H r (cs.map V.int) ∧ Row cs ∧ 0 ≤ m ∧ m ≤ 10 ∧ ∀ ws left, Small cs ws left → 0 ≤ left → RetL ws H Q
theorem ok_fewWay {f : Addr} {fd : FuncData} (F : Fun K "_law_few" "_law_few" s__law_few f fd) (T : Bn mg) (c__law_cell_at : Cal P w K mg base 1 "_law_cell_at" ["_law_script", "_law_k"] (spCell K)) :
    FnOk P w K mg base CX0 2 f fd ["_law_script", "_law_row", "_law_many"] (spFewWay K) := by
  refine F.ok sc__law_few (fun vs H Q E h => ?_) (fun cdv A0 outer s H vs Q E hr h => ?_)
  · obtain ⟨a, r, ns, cs, m, rfl, _⟩ := h
    rfl
  · obtain ⟨a, r, ns, cs, m, rfl, hA, hR, R, m0, m10, q⟩ := h
    refine ⟨_, (pss_cons (ps_setLc (i := 3) (own := [("_law_coin", 4)]) (g := gName 4) (tt := tYes) (by rfl) sc__law_few.nd rfl rfl (sw_true rfl rfl rfl (by decide +kernel)) (pi_list (pv 1)) (blkOk_by (own := [("_law_coin", 4)]) (N := ["_law_script", "_law_row", "_law_many", "_law_way", "_law_coin", "_law_left", "_law_k", "_law_at"]) (sc := defScope s__law_few) (by decide +kernel)) (fun _ _ _ _ _ => pg_name (i := 4) sc__law_few.nd rfl (Or.inl rfl)) (fun _ _ _ _ _ => pts_nil) (fun _ _ _ _ _ => pe_int))
      (pss_cons (ps_set (i := 5) sc__law_few.nd rfl (by first | exact Or.inl rfl | exact Or.inr rfl) pe_int)
      (pss_cons (ps_for PassesOwn.never rfl (pi_range1 rfl T.m_range (pa_cons (pv 2) pa_nil)) (pg_name (i := 6) sc__law_few.nd rfl (by first | exact Or.inl rfl | exact Or.inr rfl)) (pss_cons (ps_set (i := 7) sc__law_few.nd rfl (by first | exact Or.inl rfl | exact Or.inr rfl) (pe_op op_mod (pe_cal c__law_cell_at hr (by decide) (pa_cons (pv 0) (pa_cons (pe_op op_add pe_int (pv 6)) pa_nil))) (pe_callB call_ln (by rfl) T.m_len PySem.boot_len (pa_cons (pv 1) pa_nil))))
      (pss_one (ps_if (pt_cmpR op_le (pe_ix ix_list (pv 1) (pv 7) (fun _ _ => rfl)) (pv 5) (nomark _)) (pss_cons (ps_asg (pe_op op_add (pe_ix ix_list (pv 3) (pv 7) (fun _ _ => rfl)) pe_int) (pg_sub (pv 3) (pv 7) set_list))
      (pss_one (ps_set (i := 5) sc__law_few.nd rfl (by first | exact Or.inl rfl | exact Or.inr rfl) (pe_op op_sub (pv 5) (pe_ix ix_list (pv 1) (pv 7) (fun _ _ => rfl)))))) pss_nil))))
      (pss_one (ps_ret (pv 3)))))), ?_⟩
    try dsimp only [cxOf]
    refine g_start [some (.ref a), some (.ref r), some (.int m), none, none, none, none, none] rfl ?_
    have R12 := R.len
    have Rne := R.ne
    walk_at "go"
    refine g_lcL (xs := cs.map V.int) (fun i => List.replicate i (V.int 0)) rfl hR (fun _ => rfl) ?_ ?_ ?_
    · intro i x D hi hD hS
      have hi' : i < cs.length := by
        have z := (List.getElem?_eq_some_iff.mp hi).1
        rw [List.length_map] at z
        exact z
      walk_at "go"
      exact lc_end (G := fun i => List.replicate i (V.int 0)) (small_lt (by rw [List.length_replicate]; omega)) List.replicate_succ'
    · intro p hp
      have e0 : (upd H p (.lst (List.replicate (cs.map V.int).length (V.int 0)))) = upd H p (LI (List.replicate cs.length 0)) := by
        rw [List.length_map]
        show _ = upd H p (.lst ((List.replicate cs.length (0 : Int)).map V.int))
        rw [List.map_replicate]
      rw [e0]
      have hA2 : ∀ o, SqL K (upd H p o) a (ns.map V.int) := fun o => (same_new hp).seq hA
      have hR2 : ∀ o, SqL K (upd H p o) r (cs.map V.int) := fun o => (same_new hp).seq hR
      walk_at "go"
      refine f_R1 (n := m) (by omega) (fun i σ' H' => ∃ (ws : List Int) (left : Int) (x y : Option V), σ' = [some (.ref a), some (.ref r), some (.int m), some (.ref p), none, some (.int left), x, y] ∧ H' = upd H p (LI ws) ∧ Small cs ws left ∧ 0 ≤ left) ⟨_, 400, none, none, rfl, rfl, small_start cs (Int.le_refl _), by decide⟩ ?_ ?_ ?_
      · rintro i σ' H' hi ⟨ws, left, x, y, rfl, rfl, S, l0⟩
        have sl := S.len
        walk_at "go"
        refine ⟨a, ns, _, rfl, hA2 _, by omega, ?_⟩
        walk_at "go"
        refine g_lnI (hR2 _) ?_
        refine g_I (by show (0 : Int) < _; omega) ?_
        generalize cellAt ns (14 + (i : Int)) = c
        have k0 := Int.emod_nonneg c (show (cs.length : Int) ≠ 0 by omega)
        have k1 := Int.emod_lt_of_pos c (show (0 : Int) < cs.length by omega)
        obtain ⟨k, hk⟩ : ∃ k : Nat, c % (cs.length : Int) = (k : Int) := ⟨_, (Int.toNat_of_nonneg k0).symm⟩
        rw [hk]
        have lk : k < cs.length := by omega
        have ec := List.getElem?_eq_getElem lk
        have ew := List.getElem?_eq_getElem (show k < ws.length by omega)
        have w0 := S.nn _ (List.mem_of_getElem? ew)
        walk_at "go"
        refine g_ix (hR2 _) (at_val ec) ?_
        walk_at "go"
        refine g_iteD (fun c1 => ?_) (fun _ => ?_)
        · walk_at "go"
          refine g_ix (sq_of upd_same) (at_val ew) ?_
          walk_at "go"
          refine g_setL upd_same (ixN_nat (j := k) (by rw [LI_len]; omega)) ?_
          rw [LI_set, upd_upd]
          walk_at "go"
          refine g_ix (hR2 _) (at_val ec) ?_
          walk_at "go"
          refine ⟨_, _, _, _, rfl, rfl, S.put ec ew (by omega) ?_, by omega⟩
          rw [show ws[k] + 1 - ws[k] = 1 by omega, Int.one_mul]
          omega
        · exact ⟨_, _, _, _, rfl, rfl, S, l0⟩
      · rintro σ' H' ⟨ws, left, x, y, rfl, rfl, S, l0⟩
        walk_at "go"
        exact q ws left S l0 p _ hp (same_new hp) upd_same
      · intro Q' q'
        walk_at "go"
        exact q'
    · intro Q' q'
      walk_at "go"
      exact q'
end
end Cj

namespace Cj
open PySem PySem.Spec PyProof.Rows L2
section
variable {P : Program} {w : World} {K : PySem.W.Frag} {mg : Str → Option Value} {base : Heap} {R W A G T' C D' E' : Addr} {b1 b2 b3 b4 b5 d1 d2 d3 d4 d5 : Bool}
abbrev s__law_way_by : Stmt := top 19
theorem sc__law_way_by : FnScope ["_law_script", "_law_row", "_law_turn", "_law_left", "_law_way", "_law_coin", "_law_k", "_law_at", "_law_many"] ["_law_script", "_law_row"] (defScope s__law_way_by) := ⟨rfl, rfl, rfl, by decide +kernel, rfl, by decide +kernel, by decide +kernel⟩

def spWay7 (K : PySem.W.Frag) : Sp := fun vs H Q _ => ∃ (a r : Addr) (ns cs : List Int), vs = [.ref a, .ref r] ∧ SqL K H a (ns.map V.int) ∧ SqL K H r (cs.map V.int) ∧ Row cs ∧ ∀ ws left, Small cs ws left → 0 ≤ left → RetL ws H Q
theorem ok_way7 {f : Addr} {fd : FuncData} (F : Fun K "_law_way_by" "_law_way_by" s__law_way_by f fd) (T : Bn mg) (c__law_cell_at : Cal P w K mg base 1 "_law_cell_at" ["_law_script", "_law_k"] (spCell K)) (c__law_few : Cal P w K mg base 2 "_law_few" ["_law_script", "_law_row", "_law_many"] (spFewWay K)) :
    FnOk P w K mg base CX0 3 f fd ["_law_script", "_law_row"] (spWay7 K) := by
  refine F.ok sc__law_way_by (fun vs H Q E h => ?_) (fun cdv A0 outer s H vs Q E hr h => ?_)
  · obtain ⟨a, r, ns, cs, rfl, _⟩ := h
    rfl
  · obtain ⟨a, r, ns, cs, rfl, hA, hR, R, q⟩ := h
    refine ⟨_, (pss_cons (ps_set (i := 2) sc__law_way_by.nd rfl (by first | exact Or.inl rfl | exact Or.inr rfl) (pe_op op_fdiv (pe_cal c__law_cell_at hr (by decide) (pa_cons (pv 0) (pa_cons pe_int pa_nil))) pe_int))
      (pss_cons (ps_if (pt_cmpR op_gt (pe_op op_mod (pv 2) pe_int) pe_int (nomark _)) (pss_one (ps_ret (pe_cal c__law_few hr (by decide) (pa_cons (pv 0) (pa_cons (pv 1) (pa_cons (pe_op op_add pe_int (pe_op op_mod (pe_op op_fdiv (pv 2) pe_int) pe_int)) pa_nil)))))) pss_nil)
      (pss_cons (ps_set (i := 3) sc__law_way_by.nd rfl (by first | exact Or.inl rfl | exact Or.inr rfl) (pe_op op_mod (pe_cal c__law_cell_at hr (by decide) (pa_cons (pv 0) (pa_cons pe_int pa_nil))) pe_int))
      (pss_cons (ps_setLc (i := 4) (own := [("_law_coin", 5)]) (g := gName 5) (tt := tYes) (by rfl) sc__law_way_by.nd rfl rfl (sw_true rfl rfl rfl (by decide +kernel)) (pi_list (pv 1)) (blkOk_by (own := [("_law_coin", 5)]) (N := ["_law_script", "_law_row", "_law_turn", "_law_left", "_law_way", "_law_coin", "_law_k", "_law_at", "_law_many"]) (sc := defScope s__law_way_by) (by decide +kernel)) (fun _ _ _ _ _ => pg_name (i := 5) sc__law_way_by.nd rfl (Or.inl rfl)) (fun _ _ _ _ _ => pts_nil) (fun _ _ _ _ _ => pe_int))
      (Evl.pss_cut (ps_if (pt_cmpR op_eq (pe_op op_mod (pe_op op_fdiv (pv 2) pe_int) pe_int) pe_int (nomark _)) (pss_one (ps_set (i := 3) sc__law_way_by.nd rfl (by first | exact Or.inl rfl | exact Or.inr rfl) pe_int)) pss_nil)
      (pss_cons (ps_for PassesOwn.never rfl (pi_range1 rfl T.m_range (pa_cons (pe_callB call_ln (by rfl) T.m_len PySem.boot_len (pa_cons (pv 1) pa_nil)) pa_nil)) (pg_name (i := 6) sc__law_way_by.nd rfl (by first | exact Or.inl rfl | exact Or.inr rfl)) (pss_cons (ps_set (i := 7) sc__law_way_by.nd rfl (by first | exact Or.inl rfl | exact Or.inr rfl) (pe_op op_mod (pe_op op_add (pe_op op_fdiv (pv 2) pe_int) (pv 6)) (pe_callB call_ln (by rfl) T.m_len PySem.boot_len (pa_cons (pv 1) pa_nil))))
      (pss_cons (ps_set (i := 8) sc__law_way_by.nd rfl (by first | exact Or.inl rfl | exact Or.inr rfl) (pe_op op_mod (pe_cal c__law_cell_at hr (by decide) (pa_cons (pv 0) (pa_cons (pe_op op_add pe_int (pv 7)) pa_nil))) (pe_op op_add pe_int (pe_op op_fdivW (pv 3) (pe_ix ix_list (pv 1) (pv 7) (fun _ _ => rfl))))))
      (pss_cons (ps_asg (pv 8) (pg_sub (pv 4) (pv 7) set_list))
      (pss_one (ps_set (i := 3) sc__law_way_by.nd rfl (by first | exact Or.inl rfl | exact Or.inr rfl) (pe_op op_sub (pv 3) (pe_op op_mulW (pv 8) (pe_ix ix_list (pv 1) (pv 7) (fun _ _ => rfl))))))))))
      (Evl.pss_cut (ps_if (pt_cmpR op_eq (pe_op op_mod (pe_op op_fdiv (pv 2) pe_int) pe_int) pe_int (nomark _)) (pss_one (ps_asg (pe_op op_add (pe_ix ix_list (pv 4) pe_int (fun _ _ => rfl)) (pv 3)) (pg_sub (pv 4) pe_int set_list))) pss_nil)
      (pss_one (ps_ret (pv 4)))))))))), ?_⟩
    try dsimp only [cxOf]
    refine g_start [some (.ref a), some (.ref r), none, none, none, none, none, none, none] rfl ?_
    have R12 := R.len
    have Rne := R.ne
    walk_at "go"
    refine ⟨a, ns, _, rfl, hA, by omega, ?_⟩
    walk_at "go"
    generalize cellAt ns 1 / 6 = t
    have t0 := Int.emod_nonneg (t / 3) (show (6 : Int) ≠ 0 by decide)
    have t1 := Int.emod_lt_of_pos (t / 3) (show (0 : Int) < 6 by decide)
    refine g_iteD (fun _ => ?_) (fun _ => ?_)
    · walk_at "go"
      refine ⟨a, r, ns, cs, _, rfl, hA, hR, R, by omega, by omega, fun ws left S l0 => ?_⟩
      exact q ws left S l0
    walk_at "go"
    refine ⟨a, ns, _, rfl, hA, by omega, ?_⟩
    walk_at "go"
    have f0 := Int.emod_nonneg (cellAt ns 2) (show (401 : Int) ≠ 0 by decide)
    have f1 := Int.emod_lt_of_pos (cellAt ns 2) (show (0 : Int) < 401 by decide)
    generalize cellAt ns 2 % 401 = left0 at f0 f1 ⊢
    refine g_lcL (xs := cs.map V.int) (fun i => List.replicate i (V.int 0)) rfl hR (fun _ => rfl) ?_ ?_ ?_
    · intro i x D hi hD hS
      have hi' : i < cs.length := by
        have z := (List.getElem?_eq_some_iff.mp hi).1
        rw [List.length_map] at z
        exact z
      walk_at "go"
      exact lc_end (G := fun i => List.replicate i (V.int 0)) (small_lt (by rw [List.length_replicate]; omega)) List.replicate_succ'
    · intro p hp
      have e0 : (upd H p (.lst (List.replicate (cs.map V.int).length (V.int 0)))) = upd H p (LI (List.replicate cs.length 0)) := by
        rw [List.length_map]
        show _ = upd H p (.lst ((List.replicate cs.length (0 : Int)).map V.int))
        rw [List.map_replicate]
      rw [e0]
      have hA2 : ∀ o, SqL K (upd H p o) a (ns.map V.int) := fun o => (same_new hp).seq hA
      have hR2 : ∀ o, SqL K (upd H p o) r (cs.map V.int) := fun o => (same_new hp).seq hR
      walk_at "go"
      refine g_cut (fun σ' H' => ∃ left : Int, σ' = [some (.ref a), some (.ref r), some (.int t), some (.int left), some (.ref p), none, none, none, none] ∧ H' = upd H p (LI (List.replicate cs.length 0)) ∧ 0 ≤ left ∧ left ≤ 400) ?_ ?_
      · walk_at "go"
        refine g_iteD (fun _ => ?_) (fun _ => ?_)
        · walk_at "go"
          exact ⟨_, rfl, rfl, by decide, by decide⟩
        · walk_at "go"
          exact ⟨_, rfl, rfl, f0, by omega⟩
      rintro σ' H' ⟨left, rfl, rfl, l0, l1⟩
      walk_at "go"
      refine f_R1 (n := cs.length) (by omega) (fun i σ' H' => ∃ (ws : List Int) (left : Int) (x y z : Option V), σ' = [some (.ref a), some (.ref r), some (.int t), some (.int left), some (.ref p), none, x, y, z] ∧ H' = upd H p (LI ws) ∧ Small cs ws left ∧ 0 ≤ left) ⟨_, left, none, none, none, rfl, rfl, small_start cs l1, l0⟩ ?_ ?_ ?_
      · rintro i σ' H' hi ⟨ws, left, x, y, z, rfl, rfl, S, l0⟩
        have sl := S.len
        walk_at "go"
        refine g_lnI (hR2 _) ?_
        refine g_I (by show (0 : Int) < _; omega) ?_
        generalize t / 12 + (i : Int) = c
        have k0 := Int.emod_nonneg c (show (cs.length : Int) ≠ 0 by omega)
        have k1 := Int.emod_lt_of_pos c (show (0 : Int) < cs.length by omega)
        obtain ⟨k, hk⟩ : ∃ k : Nat, c % (cs.length : Int) = (k : Int) := ⟨_, (Int.toNat_of_nonneg k0).symm⟩
        rw [hk]
        have lk : k < cs.length := by omega
        have ec := List.getElem?_eq_getElem lk
        have p1 := R.pos _ _ ec
        have p2 := R.top _ (List.getElem_mem lk)
        have ew := List.getElem?_eq_getElem (show k < ws.length by omega)
        have w0 := S.nn _ (List.mem_of_getElem? ew)
        walk_at "go"
        refine ⟨a, ns, _, rfl, hA2 _, by omega, ?_⟩
        walk_at "go"
        refine g_ix (hR2 _) (at_val ec) ?_
        walk_at "go"
        refine g_I (wide_div (b := 300) (by omega) (by omega) (by decide) (by decide)) ?_
        walk_at "go"
        have dv := Int.ediv_nonneg l0 (show (0 : Int) ≤ cs[k] by omega)
        refine g_I (by show (0 : Int) < _; omega) ?_
        have n0 := Int.emod_nonneg (cellAt ns (14 + (k : Int))) (show (1 + left / cs[k] : Int) ≠ 0 by omega)
        have n1 := Int.emod_lt_of_pos (cellAt ns (14 + (k : Int))) (show (0 : Int) < 1 + left / cs[k] by omega)
        generalize cellAt ns (14 + (k : Int)) % (1 + left / cs[k]) = many at n0 n1 ⊢
        have mc : many * cs[k] ≤ left := by
          have z1 : many * cs[k] ≤ left / cs[k] * cs[k] := Int.mul_le_mul_of_nonneg_right (by omega) (by omega)
          have z2 := Int.ediv_mul_le left (show cs[k] ≠ 0 by omega)
          omega
        have m400 : left / cs[k] ≤ left := Int.ediv_le_self _ l0
        have dl := dot_nn R sl S.nn
        have ss := S.sum
        walk_at "go"
        refine g_setL upd_same (ixN_nat (j := k) (by rw [LI_len]; omega)) ?_
        rw [LI_set, upd_upd]
        walk_at "go"
        refine g_ix (hR2 _) (at_val ec) ?_
        walk_at "go"
        refine g_I (wide_mul (a := 300) (b := 300) (by omega) (by omega) (by decide) (by decide) (by decide)) ?_
        walk_at "go"
        refine ⟨_, _, _, _, _, rfl, rfl, S.put ec ew n0 ?_, by omega⟩
        have z3 : 0 ≤ ws[k] * cs[k] := Int.mul_nonneg w0 (by omega)
        rw [Int.sub_mul]
        omega
      · rintro σ' H' ⟨ws, left, x, y, z, rfl, rfl, S, l0⟩
        have sl := S.len
        walk_at "go"
        refine g_cut (fun σ' H' => ∃ (ws : List Int) (left : Int) (x y z : Option V), σ' = [some (.ref a), some (.ref r), some (.int t), some (.int left), some (.ref p), none, x, y, z] ∧ H' = upd H p (LI ws) ∧ ∃ l2 : Int, Small cs ws l2 ∧ 0 ≤ l2) ?_ ?_
        · walk_at "go"
          refine g_iteD (fun _ => ?_) (fun _ => ?_)
          · have ew := List.getElem?_eq_getElem (show 0 < ws.length by omega)
            have w0 := S.nn _ (List.mem_of_getElem? ew)
            walk_at "go"
            refine g_ix (sq_of upd_same) (at_val (k := 0) ew) ?_
            walk_at "go"
            refine g_setL upd_same (ixN_nat (j := 0) (by rw [LI_len]; omega)) ?_
            rw [LI_set, upd_upd]
            walk_at "go"
            refine ⟨_, _, _, _, _, rfl, rfl, 0, S.put R.hd ew (by omega) ?_, by decide⟩
            omega
          · walk_at "go"
            exact ⟨_, _, _, _, _, rfl, rfl, left, S, l0⟩
        rintro σ' H' ⟨ws, left, x, y, z, rfl, rfl, l2, S, l0⟩
        walk_at "go"
        exact q ws l2 S l0 p _ hp (same_new hp) upd_same
      · intro Q' q'
        walk_at "go"
        refine g_lnI (hR2 _) ?_
        walk_at "go"
        exact q'
    · intro Q' q'
      walk_at "go"
      exact q'
abbrev s__law_not_behind : Stmt := top 22
theorem sc__law_not_behind : FnScope ["_law_found", "_law_other", "_law_k"] ["_law_found", "_law_other"] (defScope s__law_not_behind) := ⟨rfl, rfl, rfl, by decide +kernel, rfl, by decide +kernel, by decide +kernel⟩

def spNB (K : PySem.W.Frag) : Sp := fun vs H Q _ => ∃ (a b : Addr) (ws us : List Int), vs = [.ref a, .ref b] ∧ SqL K H a (ws.map V.int) ∧ SqL K H b (us.map V.int) ∧ ws.length = us.length ∧ ws.length ≤ 1000 ∧ NotBehind ws us ∧ Q (.bl true) H
theorem ok_nb {f : Addr} {fd : FuncData} (F : Fun K "_law_not_behind" "_law_not_behind" s__law_not_behind f fd) (T : Bn mg) : FnOk P w K mg base CX0 1 f fd ["_law_found", "_law_other"] (spNB K) := by
  refine F.ok sc__law_not_behind (fun vs H Q E h => ?_) (fun cdv A0 outer s H vs Q E hr h => ?_)
  · obtain ⟨a, b, ws, us, rfl, _⟩ := h
    rfl
  · obtain ⟨a, b, ws, us, rfl, hA, hB, hl, hn, nb, q⟩ := h
    refine ⟨_, (pss_cons (ps_if (pt_cmpR op_ne (pe_callB (cr_sum rfl) (by rfl) T.m_sum (by decide +kernel) (pa_cons (pv 0) pa_nil)) (pe_callB (cr_sum rfl) (by rfl) T.m_sum (by decide +kernel) (pa_cons (pv 1) pa_nil)) (nomark _)) (pss_one (ps_ret (pe_cmpR op_lt (pe_callB (cr_sum rfl) (by rfl) T.m_sum (by decide +kernel) (pa_cons (pv 0) pa_nil)) (pe_callB (cr_sum rfl) (by rfl) T.m_sum (by decide +kernel) (pa_cons (pv 1) pa_nil)) (nomark _)))) pss_nil)
      (pss_cons (ps_for PassesOwn.never rfl (pi_range3 rfl T.m_range (pa_cons (pe_op op_sub (pe_callB call_ln (by rfl) T.m_len PySem.boot_len (pa_cons (pv 0) pa_nil)) pe_int) (pa_cons (pe_un un_neg pe_int) (pa_cons (pe_un un_neg pe_int) pa_nil)))) (pg_name (i := 2) sc__law_not_behind.nd rfl (by first | exact Or.inl rfl | exact Or.inr rfl)) (pss_one (ps_if (pt_cmpR op_ne (pe_ix ix_list (pv 0) (pv 2) (fun _ _ => rfl)) (pe_ix ix_list (pv 1) (pv 2) (fun _ _ => rfl)) (nomark _)) (pss_one (ps_ret (pe_cmpR op_gt (pe_ix ix_list (pv 0) (pv 2) (fun _ _ => rfl)) (pe_ix ix_list (pv 1) (pv 2) (fun _ _ => rfl)) (nomark _)))) pss_nil)))
      (pss_one (ps_ret pe_bl)))), ?_⟩
    try dsimp only [cxOf]
    refine g_start [some (.ref a), some (.ref b), none] rfl ?_
    walk_at "go"
    refine g_sum hA ?_
    walk_at "go"
    refine g_sum hB ?_
    walk_at "go"
    refine g_iteN (fun ne => ?_) (fun eq => ?_)
    · walk_at "go"
      refine g_sum hA ?_
      walk_at "go"
      refine g_sum hB ?_
      walk_at "go"
      rcases nb with lt | ⟨e, _⟩
      · rw [decide_eq_true lt]
        exact q
      · exact absurd e ne
    rcases nb with lt | ⟨_, way⟩
    · omega
    walk_at "go"
    refine f_Dn (n := ws.length) (by omega) (fun k σ' H' => ∃ x, σ' = [some (.ref a), some (.ref b), x] ∧ H' = H ∧ ∀ i, k ≤ i → i < ws.length → at0 ws i = at0 us i) ⟨_, rfl, rfl, fun i h1 h2 => by omega⟩ ?_ ?_ ?_
    · rintro k σ' H' hk ⟨x, rfl, rfl, same⟩
      have e1 := at0_get hk
      have e2 := at0_get (show k < us.length by omega)
      walk_at "go"
      refine g_ix hA (at_val e1) ?_
      walk_at "go"
      refine g_ix hB (at_val e2) ?_
      walk_at "go"
      refine g_iteN (fun ne => ?_) (fun eq => ?_)
      · walk_at "go"
        refine g_ix hA (at_val e1) ?_
        walk_at "go"
        refine g_ix hB (at_val e2) ?_
        walk_at "go"
        rcases way with ⟨j, h1, h2, h3⟩ | all
        · have ej : j = k := by
            rcases Nat.lt_trichotomy j k with l | l | l
            · exact absurd (h3 k l hk) ne
            · exact l
            · have := same j (by omega) h1
              omega
          subst ej
          rw [decide_eq_true h2]
          exact q
        · exact absurd (all k hk) ne
      · walk_at "go"
        refine ⟨_, rfl, rfl, fun i h1 h2 => ?_⟩
        by_cases e : i = k
        · rw [e]
          exact eq
        · exact same i (by omega) h2
    · rintro σ' H' ⟨x, rfl, rfl, same⟩
      walk_at "go"
      exact q
    · intro Q' q'
      walk_at "go"
      exact q'
abbrev s__law_far : Stmt := top 26
theorem sc__law_far : FnScope ["_law_cell"] ["_law_cell"] (defScope s__law_far) := ⟨rfl, rfl, rfl, by decide +kernel, rfl, by decide +kernel, by decide +kernel⟩

def spFar : Sp := fun vs H Q _ => ∃ c : Int, vs = [.int c] ∧ c.natAbs.log2 < 2000000 ∧ ∀ m : Int, (m < 0 ∨ 400 < m) → Q (.int m) H
theorem ok_far {f : Addr} {fd : FuncData} (F : Fun K "_law_far" "_law_far" s__law_far f fd) (T : Bn mg) : FnOk P w K mg base CX0 1 f fd ["_law_cell"] spFar := by
  refine F.ok sc__law_far (fun vs H Q E h => ?_) (fun cdv A0 outer s H vs Q E hr h => ?_)
  · obtain ⟨c, rfl, _⟩ := h
    rfl
  · obtain ⟨c, rfl, hc, q⟩ := h
    refine ⟨_, (pss_cons (ps_if (pt_cmpR op_eq (pe_op op_mod (pv 0) pe_int) pe_int (nomark _)) (pss_one (ps_ret (pe_op op_sub (pe_un un_neg pe_int) (pe_op op_mod (pe_op op_fdiv (pv 0) pe_int) pe_int)))) pss_nil)
      (pss_cons (ps_if (pt_cmpR op_eq (pe_op op_mod (pv 0) pe_int) pe_int (nomark _)) (pss_one (ps_ret (pe_op op_add pe_int (pe_op op_mod (pe_op op_fdiv (pv 0) pe_int) pe_int)))) pss_nil)
      (pss_one (ps_ret (pe_op op_add pe_int (pe_op op_mod (pe_op op_mulX (pe_op op_fdiv (pv 0) pe_int) (pe_op op_pow pe_int pe_int)) (pe_op op_sub (pe_op op_mulW (pe_op op_mul pe_int (pe_op op_pow pe_int pe_int)) (pe_op op_pow pe_int pe_int)) pe_int))))))), ?_⟩
    try dsimp only [cxOf]
    refine g_start [some (.int c)] rfl ?_
    walk_at "go"
    refine g_iteD (fun _ => ?_) (fun _ => ?_)
    · have z := Int.emod_nonneg (c / 3) (show (1000 : Int) ≠ 0 by decide)
      walk_at "go"
      exact q _ (.inl (by omega))
    walk_at "go"
    refine g_iteD (fun _ => ?_) (fun _ => ?_)
    · have z := Int.emod_nonneg (c / 3) (show (50 : Int) ≠ 0 by decide)
      walk_at "go"
      exact q _ (.inr (by omega))
    walk_at "go"
    have lc : (c / 3).natAbs.log2 < 2000000 := Nat.lt_of_le_of_lt (log2_le (Int.natAbs_ediv_le_natAbs c 3)) hc
    have lk : ((48271 : Int) ^ (9 : Int).toNat).natAbs.log2 < 1000 := by decide
    refine g_I (show CMulX _ _ by unfold CMulX; omega) ?_
    walk_at "go"
    refine g_I (.inl (by decide)) ?_
    walk_at "go"
    refine g_I (wide_mul (a := 200) (b := 200) (by decide) (by decide) (by decide) (by decide) (by decide)) ?_
    walk_at "go"
    have e80 : (2 * 10 ^ (40 : Int).toNat * 10 ^ (40 : Int).toNat - 400 : Int) = 2 * 10 ^ 80 - 400 := by decide
    rw [e80]
    have z := Int.emod_nonneg (c / 3 * 48271 ^ (9 : Int).toNat) (show (2 * 10 ^ 80 - 400 : Int) ≠ 0 by decide)
    exact q _ (.inr (by omega))
abbrev s__law_refused : Stmt := top 23
theorem sc__law_refused : FnScope ["_law_row", "_law_amount"] ["_law_row", "_law_amount"] (defScope s__law_refused) := ⟨rfl, rfl, rfl, by decide +kernel, rfl, by decide +kernel, by decide +kernel⟩

def spRef (K : PySem.W.Frag) : Sp := fun vs H Q _ => ∃ (a : Addr) (cs : List Int) (m : Int), vs = [.ref a, .int m] ∧ SqL K H a (cs.map V.int) ∧ Row cs ∧ (m < 0 ∨ 400 < m) ∧ ∀ H', Same H H' → Q (.bl true) H'
def spAny (K : PySem.W.Frag) : Sp := fun vs H Q _ => ∃ (a : Addr) (cs : List Int) (m : Int), vs = [.ref a, .int m] ∧ SqL K H a (cs.map V.int) ∧ Row cs ∧ ∀ b H', (b = true ↔ (m < 0 ∨ 400 < m)) → Same H H' → Q (.bl b) H'
theorem ok_ref {f : Addr} {fd : FuncData} (F : Fun K "_law_refused" "_law_refused" s__law_refused f fd) (T : Bn mg) (D : ExD K mg R W A G T' C D' "NoAmount" b1 b2 b3 b4 b5) (D2 : ExD K mg R W A G T' C E' "TooGreat" d1 d2 d3 d4 d5)
    (x12 : PySem.W.exmOne K (.ref E') (.ref D') = some false) (r_fewest : CalR P w K mg base 2 "fewest" ["coins", "amount"] (spFew K D' E')) : FnOk P w K mg base CX0 3 f fd ["_law_row", "_law_amount"] (spRef K) := by
  have n_NoAmount := D.nD
  have n_TooGreat := D2.nD
  refine F.ok sc__law_refused (fun vs H Q E h => ?_) (fun cdv A0 outer s H vs Q E hr h => ?_)
  · obtain ⟨a, cs, m, rfl, _⟩ := h
    rfl
  · obtain ⟨a, cs, m, rfl, hA, R, bad, q⟩ := h
    refine ⟨_, (pss_cons (ps_try_many rfl rfl takes0 (fun W pn xe tk _ => (pss_one (ps_expr (pe_calR r_fewest tk hr (by decide) (pa_cons (pv 0) (pa_cons (pv 1) pa_nil)))))) (HdsOk.cons ⟨rfl, by decide, Or.inl n_NoAmount⟩ (fun a oe cls d pn hz hf => by exact (pss_one (ps_ret (pe_or (pe_cmpR op_lt (pv 1) pe_int (nomark _)) (pe_one (pe_cmpR op_gt (pv 1) (pe_op op_mulW (pe_op op_pow pe_int pe_int) (pe_op op_pow pe_int pe_int)) (nomark _))))))) (HdsOk.cons ⟨rfl, by decide, Or.inl n_TooGreat⟩ (fun a oe cls d pn hz hf => by exact (pss_one (ps_ret (pe_and (pe_cmpR op_lt pe_int (pv 1) (nomark _)) (pe_one (pe_cmpR op_le (pv 1) (pe_op op_mulW (pe_op op_pow pe_int pe_int) (pe_op op_pow pe_int pe_int)) (nomark _))))))) HdsOk.nil)))
      (pss_one (ps_ret pe_bl))), ?_⟩
    try dsimp only [cxOf]
    refine g_start [some (.ref a), some (.int m)] rfl ?_
    have w4 : ∀ {f : Int → Int → V} {r : VK} {H' : Hp}, r (f (10 ^ (40 : Int).toNat) (10 ^ (40 : Int).toNat)) H' → rI CMulW f (.int (10 ^ (40 : Int).toNat)) (.int (10 ^ (40 : Int).toNat)) H' r := fun z => g_I (wide_mul (a := 200) (b := 200) (by decide) (by decide) (by decide) (by decide) (by decide)) z
    have e80 : (10 ^ (40 : Int).toNat * 10 ^ (40 : Int).toNat : Int) = 10 ^ 80 := by decide
    walk_at "go"
    refine g_callS ?_
    walk_at "go"
    refine ⟨a, cs, m, rfl, hA, R, fun c => ⟨true, D.mD, fun _ x hx => ?_, fun z => nomatch z⟩, fun c1 c2 => ⟨false, x12, (fun z => nomatch z), fun _ => ⟨true, D2.mD, fun _ x hx => ?_, fun z => nomatch z⟩⟩, fun c1 c2 => absurd bad (by omega)⟩
    · walk_at "go"
      refine g_iteD (fun _ => ?_) (fun c3 => ?_)
      · exact q _ (fun _ _ z => z)
      · walk_at "go"
        refine w4 ?_
        rw [e80]
        walk_at "go"
        rw [decide_eq_true (show (10 : Int) ^ 80 < m by omega)]
        exact q _ (fun _ _ z => z)
    · walk_at "go"
      refine g_iteD (fun _ => ?_) (fun z => absurd c1 z)
      walk_at "go"
      refine w4 ?_
      rw [e80]
      walk_at "go"
      rw [decide_eq_true c2]
      exact q _ (fun _ _ z => z)
abbrev s__law_refused_by_any : Stmt := top 25
theorem sc__law_refused_by_any : FnScope ["_law_row", "_law_amount", "_law_e"] ["_law_row", "_law_amount"] (defScope s__law_refused_by_any) := ⟨rfl, rfl, rfl, by decide +kernel, rfl, by decide +kernel, by decide +kernel⟩

theorem ok_any {f : Addr} {fd : FuncData} (F : Fun K "_law_refused_by_any" "_law_refused_by_any" s__law_refused_by_any f fd) (T : Bn mg) (D : ExD K mg R W A G T' C D' "NoAmount" b1 b2 b3 b4 b5) (D2 : ExD K mg R W A G T' C E' "TooGreat" d1 d2 d3 d4 d5)
    (r_fewest : CalR P w K mg base 2 "fewest" ["coins", "amount"] (spFew K D' E')) (c__law_kinds : CalP P w K mg base 1 "_law_kinds" ["_law_e"] (fun cls d H Q => spKinds D' cls d H Q ∨ spKinds E' cls d H Q)) : FnOk P w K mg base CX0 3 f fd ["_law_row", "_law_amount"] (spAny K) := by
  have n_CoinError := D.nC
  refine F.ok sc__law_refused_by_any (fun vs H Q E h => ?_) (fun cdv A0 outer s H vs Q E hr h => ?_)
  · obtain ⟨a, cs, m, rfl, _⟩ := h
    rfl
  · obtain ⟨a, cs, m, rfl, hA, R, q⟩ := h
    refine ⟨_, (pss_cons (ps_try_as (i := 2) rfl rfl sc__law_refused_by_any.nd rfl rfl ⟨rfl, by decide, Or.inl n_CoinError⟩ takes0 (fun W pn xe tk _ => (pss_one (ps_expr (pe_calR r_fewest tk hr (by decide) (pa_cons (pv 0) (pa_cons (pv 1) pa_nil)))))) (fun a oe cls d pn hz hf => by exact (pss_one (ps_ret (pe_and (pe_callB (call_isX (K := K) (a := a) (o := (a, oe)) rfl rfl List.mem_cons_self hz hf) (by rfl) T.m_isinstance (by decide +kernel) (pa_cons (pv 2) (pa_cons (pe_bltn (v := .ty "ValueError") rfl T.m_ValueError (by decide +kernel) rfl) pa_nil))) (pe_one (pe_cmpR op_eq (pe_calP c__law_kinds (a := a) (o := (a, oe)) rfl List.mem_cons_self hz hf (room_up hr) (by decide) (pv 2)) pe_int (nomark _))))))))
      (pss_one (ps_ret pe_bl))), ?_⟩
    try dsimp only [cxOf]
    refine g_start [some (.ref a), some (.int m), none] rfl ?_
    walk_at "go"
    refine g_callS ?_
    walk_at "go"
    refine ⟨a, cs, m, rfl, hA, R, fun c => ⟨true, D.mC, fun _ x hx => ?_, fun z => nomatch z⟩, fun c1 c2 => ⟨true, D2.mC, fun _ x hx => ?_, fun z => nomatch z⟩, fun c1 c2 ws' B p H' hp s1 e1 => ?_⟩
    · walk_at "go"
      refine g_isXT D.ec D.qV ?_
      walk_at "go"
      refine g_calP ?_
      walk_at "go"
      refine ⟨rfl, .inl ⟨rfl, rfl, fun H' sH => ?_⟩⟩
      walk_at "go"
      exact q _ _ ⟨fun _ => by omega, fun _ => rfl⟩ sH
    · walk_at "go"
      refine g_isXT D2.ec D2.qV ?_
      walk_at "go"
      refine g_calP ?_
      walk_at "go"
      refine ⟨rfl, .inr ⟨rfl, rfl, fun H' sH => ?_⟩⟩
      walk_at "go"
      exact q _ _ ⟨fun _ => by omega, fun _ => rfl⟩ sH
    · walk_at "go"
      exact q _ _ ⟨fun z => (nomatch z), fun z => absurd z (by omega)⟩ s1
end
end Cj

namespace Cj
open PySem PySem.Spec PyProof.Rows L2
theorem bits_log {x : Int} (h : Builtin.Int.intBits x ≤ 1048576) : x.natAbs.log2 < 2000000 := by
  unfold Builtin.Int.intBits at h
  split at h
  · rename_i z
    have e : x.natAbs = 0 := by
      first
      | (have := eq_of_beq z; omega)
      | omega
    rw [e]
    decide
  · omega
section
variable {P : Program} {w : World} {K : PySem.W.Frag} {mg : Str → Option Value} {base : Heap} {R W A G T' C D' E' : Addr} {b1 b2 b3 b4 b5 d1 d2 d3 d4 d5 : Bool}
theorem kinds_two {f : Addr} {fd : FuncData} {k : Nat} {ps : List Str} {s1 s2 : Value → Option Addr → Hp → VK → Prop} (h1 : RunP P w K mg base k f fd ps s1) (h2 : RunP P w K mg base k f fd ps s2) : RunP P w K mg base k f fd ps (fun cls d H Q => s1 cls d H Q ∨ s2 cls d H Q) :=
  fun p cls d A outer s H args us Q hz hf room pin e0 b r h => h.elim (fun y => h1 p cls d A outer s H args us Q hz hf room pin e0 b r y) fun y => h2 p cls d A outer s H args us Q hz hf room pin e0 b r y
abbrev s_law : Stmt := top 27
theorem sc_law : FnScope ["_law_script", "_law_row", "_law_cell", "_law_coins", "_law_amount", "_law_drawn", "_law_found", "_law_number"] ["_law_script"] (defScope s_law) := ⟨rfl, rfl, rfl, by decide +kernel, rfl, by decide +kernel, by decide +kernel⟩

def spLaw (K : PySem.W.Frag) : Sp := fun vs H Q _ => ∃ (a : Addr) (ns : List Int), vs = [.ref a] ∧ SqL K H a (ns.map V.int) ∧ ns.length ≤ 63 ∧ (∀ z ∈ ns, Builtin.Int.intBits z ≤ 1048576) ∧ ∀ H', Q (.bl true) H'
theorem ok_law {f : Addr} {fd : FuncData} {tM tA : Tok} (F : Fun K "law" "law" s_law f fd) (T : Bn mg) (gc_MOST_TABLE : mg "MOST_TABLE" = some (.int 400 tM)) (gc_MOST_AMOUNT : mg "MOST_AMOUNT" = some (.int (10 ^ 80) tA)) (c__law_row_by : Cal P w K mg base 2 "_law_row_by" ["_law_script"] (spRowBy K))
    (c__law_cell_at : Cal P w K mg base 1 "_law_cell_at" ["_law_script", "_law_k"] (spCell K)) (c__law_whole : Cal P w K mg base 1 "_law_whole" ["_law_found"] spWhole) (c__law_far : Cal P w K mg base 1 "_law_far" ["_law_cell"] spFar)
    (c__law_refused : Cal P w K mg base 3 "_law_refused" ["_law_row", "_law_amount"] (spRef K)) (c__law_refused_by_any : Cal P w K mg base 3 "_law_refused_by_any" ["_law_row", "_law_amount"] (spAny K)) (c__law_way_by : Cal P w K mg base 3 "_law_way_by" ["_law_script", "_law_row"] (spWay7 K))
    (c__law_worth : Cal P w K mg base 1 "_law_worth" ["_law_row", "_law_way"] (spLW K)) (r_fewest : CalR P w K mg base 2 "fewest" ["coins", "amount"] (spFew K D' E')) (c__law_not_behind : Cal P w K mg base 1 "_law_not_behind" ["_law_found", "_law_other"] (spNB K))
    (c__law_greatest_first : Cal P w K mg base 1 "_law_greatest_first" ["_law_row", "_law_amount"] (spGF K)) : FnOk P w K mg base CX0 4 f fd ["_law_script"] (spLaw K) := by
  refine F.ok sc_law (fun vs H Q E h => ?_) (fun cdv A0 outer s H vs Q E hr h => ?_)
  · obtain ⟨a, ns, rfl, _⟩ := h
    rfl
  · obtain ⟨a, ns, rfl, hA, hn, hb, q⟩ := h
    refine ⟨_, (pss_cons (ps_set (i := 1) sc_law.nd rfl (by first | exact Or.inl rfl | exact Or.inr rfl) (pe_cal c__law_row_by hr (by decide) (pa_cons (pv 0) pa_nil)))
      (pss_cons (ps_set (i := 2) sc_law.nd rfl (by first | exact Or.inl rfl | exact Or.inr rfl) (pe_cal c__law_cell_at hr (by decide) (pa_cons (pv 0) (pa_cons pe_int pa_nil))))
      (pss_cons (ps_set (i := 3) sc_law.nd rfl (by first | exact Or.inl rfl | exact Or.inr rfl) (pe_callTy call_ls (by rfl) T.m_list (by decide +kernel) (pa_cons (pv 1) pa_nil)))
      (pss_cons (ps_if (PW.pt (pw_or (pt_not (pt_val (pe_cal c__law_whole hr (by decide) (pa_cons (pe_glob (v := .int _) rfl gc_MOST_TABLE ⟨_, rfl⟩) pa_nil)))) (pw_or1 (pt_cmpR op_ne (pe_glob (v := .int _) rfl gc_MOST_TABLE ⟨_, rfl⟩) pe_int (nomark _))))) (pss_one (ps_ret pe_bl)) pss_nil)
      (pss_cons (ps_if (PW.pt (pw_or (pt_not (pt_val (pe_cal c__law_whole hr (by decide) (pa_cons (pe_glob (v := .int _) rfl gc_MOST_AMOUNT ⟨_, rfl⟩) pa_nil)))) (pw_or1 (pt_cmpR op_ne (pe_glob (v := .int _) rfl gc_MOST_AMOUNT ⟨_, rfl⟩) (pe_op op_mulW (pe_op op_pow pe_int pe_int) (pe_op op_pow pe_int pe_int)) (nomark _))))) (pss_one (ps_ret pe_bl)) pss_nil)
      (pss_cons (ps_if (pt_cmpR op_eq (pe_op op_mod (pv 2) pe_int) pe_int (nomark _)) (pss_cons (ps_set (i := 4) sc_law.nd rfl (by first | exact Or.inl rfl | exact Or.inr rfl) (pe_cal c__law_far hr (by decide) (pa_cons (pe_op op_fdiv (pv 2) pe_int) pa_nil)))
      (pss_one (ps_ret (pe_and (pe_cal c__law_refused hr (by decide) (pa_cons (pv 3) (pa_cons (pv 4) pa_nil))) (pe_and (pe_cal c__law_refused_by_any hr (by decide) (pa_cons (pv 3) (pa_cons (pv 4) pa_nil))) (pe_one (pe_cmpR (op_eqD hr.units) (pv 3) (pv 1) (nomark _)))))))) pss_nil)
      (pss_cons (ps_set (i := 5) sc_law.nd rfl (by first | exact Or.inl rfl | exact Or.inr rfl) (pe_cal c__law_way_by hr (by decide) (pa_cons (pv 0) (pa_cons (pv 1) pa_nil))))
      (pss_cons (ps_set (i := 4) sc_law.nd rfl (by first | exact Or.inl rfl | exact Or.inr rfl) (pe_cal c__law_worth hr (by decide) (pa_cons (pv 1) (pa_cons (pv 5) pa_nil))))
      (pss_cons (ps_if (pt_val (pe_cal c__law_refused_by_any hr (by decide) (pa_cons (pv 3) (pa_cons (pv 4) pa_nil)))) (pss_one (ps_ret pe_bl)) pss_nil)
      (pss_cons (ps_set (i := 6) sc_law.nd rfl (by first | exact Or.inl rfl | exact Or.inr rfl) (pe_calL r_fewest hr (by decide) (pa_cons (pv 3) (pa_cons (pv 4) pa_nil))))
      (pss_cons (ps_if (PW.pt (pw_or (pt_not (pt_val (pe_callB call_isi (by rfl) T.m_isinstance (by decide +kernel) (pa_cons (pv 6) (pa_cons (pe_bltn (v := .ty "list") rfl T.m_list (by decide +kernel) rfl) pa_nil))))) (pw_or (pt_cmpR op_ne (pe_callB call_ln (by rfl) T.m_len PySem.boot_len (pa_cons (pv 6) pa_nil)) (pe_callB call_ln (by rfl) T.m_len PySem.boot_len (pa_cons (pv 1) pa_nil)) (nomark _)) (pw_or1 (pt_cmpR (op_neD hr.units) (pv 3) (pv 1) (nomark _)))))) (pss_one (ps_ret pe_bl)) pss_nil)
      (pss_cons (ps_for PassesOwn.never rfl (pi_list (pv 6)) (pg_name (i := 7) sc_law.nd rfl (by first | exact Or.inl rfl | exact Or.inr rfl)) (pss_one (ps_if (PW.pt (pw_or (pt_not (pt_val (pe_cal c__law_whole hr (by decide) (pa_cons (pv 7) pa_nil)))) (pw_or1 (pt_cmpR op_lt (pv 7) pe_int (nomark _))))) (pss_one (ps_ret pe_bl)) pss_nil)))
      (pss_cons (ps_if (PW.pt (pw_or (pt_cmpR op_ne (pe_cal c__law_worth hr (by decide) (pa_cons (pv 1) (pa_cons (pv 6) pa_nil))) (pv 4) (nomark _)) (pw_or1 (pt_not (pt_val (pe_cal c__law_not_behind hr (by decide) (pa_cons (pv 6) (pa_cons (pe_cal c__law_greatest_first hr (by decide) (pa_cons (pv 1) (pa_cons (pv 4) pa_nil))) pa_nil)))))))) (pss_one (ps_ret pe_bl)) pss_nil)
      (pss_one (ps_ret (pe_cal c__law_not_behind hr (by decide) (pa_cons (pv 6) (pa_cons (pv 5) pa_nil)))))))))))))))))), ?_⟩
    try dsimp only [cxOf]
    refine g_start [some (.ref a), none, none, none, none, none, none, none] rfl ?_
    have w4 : ∀ {f : Int → Int → V} {r : VK} {H' : Hp}, r (f (10 ^ (40 : Int).toNat) (10 ^ (40 : Int).toNat)) H' → rI CMulW f (.int (10 ^ (40 : Int).toNat)) (.int (10 ^ (40 : Int).toNat)) H' r := fun z => g_I (wide_mul (a := 200) (b := 200) (by decide) (by decide) (by decide) (by decide) (by decide)) z
    have e80 : (10 ^ (40 : Int).toNat * 10 ^ (40 : Int).toNat : Int) = 10 ^ 80 := by decide
    have bits : (cellAt ns 1).natAbs.log2 < 2000000 := by
      show (ns.getD 1 0).natAbs.log2 < 2000000
      rw [List.getD_eq_getElem?_getD]
      by_cases l : 1 < ns.length
      · rw [List.getElem?_eq_getElem l]
        exact bits_log (hb _ (List.getElem_mem l))
      · rw [List.getElem?_eq_none (by omega)]
        decide
    walk_at "go"
    refine ⟨a, ns, rfl, hA, fun cs R r H1 nr s1 e1 => ?_⟩
    have R12 := R.len
    have big : ∀ c ∈ cs, c.natAbs < 2 ^ 300 := fun v hv => by
      have z1 := R.posM v hv
      have z2 := R.top v hv
      have z3 : (10 ^ 60 : Nat) < 2 ^ 300 := by decide
      omega
    walk_at "go"
    refine ⟨a, ns, _, rfl, s1.seq hA, by omega, ?_⟩
    walk_at "go"
    refine g_lsN (sq_of e1) fun c H2 nc s2 e2 => ?_
    have er := s2 _ _ e1
    have hA2 := s2.seq (s1.seq hA)
    walk_at "go"
    refine ⟨_, rfl, ?_⟩
    walk_at "go"
    refine g_iteN (fun z => absurd rfl z) (fun _ => ?_)
    walk_at "go"
    refine ⟨_, rfl, ?_⟩
    walk_at "go"
    refine w4 ?_
    rw [e80]
    walk_at "go"
    refine g_iteN (fun z => absurd rfl z) (fun _ => ?_)
    walk_at "go"
    refine g_iteD (fun _ => ?_) (fun _ => ?_)
    · walk_at "go"
      refine ⟨_, rfl, Nat.lt_of_le_of_lt (log2_le (Int.natAbs_ediv_le_natAbs _ _)) bits, fun m bad => ?_⟩
      walk_at "go"
      refine ⟨c, cs, m, rfl, sq_of e2, R, bad, fun H3 s3 => ?_⟩
      walk_at "go"
      refine ⟨c, cs, m, rfl, sq_of (s3 _ _ e2), R, fun b H4 hb s4 => ?_⟩
      rw [hb.mpr bad]
      have s34 := s3.trans s4
      walk_at "go"
      refine g_eqS (sq_of (s34 _ _ e2)) (sq_of (s34 _ _ er)) ?_
      walk_at "go"
      exact q _
    walk_at "go"
    refine ⟨a, r, ns, cs, rfl, hA2, sq_of er, R, fun us left S l0 u H3 nu s3 e3 => ?_⟩
    have top := S.top R l0
    have er3 := s3 _ _ er
    have ec3 := s3 _ _ e2
    have smallU : ∀ v ∈ us, v.natAbs < 2 ^ 300 := fun v hv => by
      have z1 := S.nn v hv
      have z2 := top v hv
      have z3 : (400 : Nat) < 2 ^ 300 := by decide
      omega
    have d0 := dot_nn R S.len S.nn
    have d400 : dot cs us ≤ 400 := by have := S.sum; omega
    walk_at "go"
    refine ⟨r, u, cs, us, rfl, sq_of er3, sq_of e3, S.len, by omega, big, smallU, ?_⟩
    walk_at "go"
    refine ⟨c, cs, _, rfl, sq_of ec3, R, fun b H4 hb s4 => ?_⟩
    have eb : b = false := by
      cases b with
      | false => rfl
      | true => exact absurd (hb.mp rfl) (by omega)
    subst eb
    have er4 := s4 _ _ er3
    have ec4 := s4 _ _ ec3
    have eu4 := s4 _ _ e3
    walk_at "go"
    refine ⟨c, cs, _, rfl, sq_of ec4, R, fun z => absurd z (by omega), fun z => absurd z (by omega), fun _ _ ws B p H5 hp s5 e5 => ?_⟩
    obtain ⟨wl, wn, wd, wb⟩ := B
    have er5 := s5 _ _ er4
    have ec5 := s5 _ _ ec4
    have eu5 := s5 _ _ eu4
    have topW := Small.top R (⟨wl, wn, by rw [wd]; exact Int.le_trans (Int.add_le_add_right d400 0) (Int.le_refl _)⟩ : Small cs ws 0) (Int.le_refl _)
    have smallW : ∀ v ∈ ws, v.natAbs < 2 ^ 300 := fun v hv => by
      have z1 := wn v hv
      have z2 := topW v hv
      have z3 : (400 : Nat) < 2 ^ 300 := by decide
      omega
    walk_at "go"
    refine g_isLst e5 ?_
    walk_at "go"
    refine g_lnI (sq_of e5) ?_
    walk_at "go"
    refine g_lnI (sq_of er5) ?_
    walk_at "go"
    refine g_iteN (fun z => absurd (show (ws.length : Int) = (cs.length : Int) by omega) z) (fun _ => ?_)
    walk_at "go"
    refine g_neS (sq_of ec5) (sq_of er5) ?_
    walk_at "go"
    refine f_L (sq_of e5) (fun i σ' H' => ∃ x, σ' = [some (.ref a), some (.ref r), some (.int (cellAt ns 1)), some (.ref c), some (.int (dot cs us)), some (.ref u), some (.ref p), x] ∧ H' = H5) ⟨_, rfl, rfl⟩ (fun i σ' H' _ ⟨_, _, e⟩ => by rw [e]; exact sq_of e5) ?_ ?_ ?_
    · rintro i x σ' H' hi ⟨y, rfl, rfl⟩
      obtain ⟨z, rfl, hz⟩ := getD_map hi
      have z0 := wn z (List.mem_of_getElem? hz)
      walk_at "go"
      refine ⟨_, rfl, ?_⟩
      walk_at "go"
      refine g_iteD (fun y => absurd y (by omega)) (fun _ => ?_)
      walk_at "go"
      exact ⟨_, rfl, rfl⟩
    · rintro σ' H' ⟨y, rfl, rfl⟩
      walk_at "go"
      refine ⟨r, p, cs, ws, rfl, sq_of er5, sq_of e5, wl, by omega, big, smallW, ?_⟩
      walk_at "go"
      refine g_iteN (fun z => absurd wd z) (fun _ => ?_)
      walk_at "go"
      refine ⟨r, cs, _, rfl, sq_of er5, R, fun v H6 nv s6 e6 => ?_⟩
      have lf := fw_length cs (dot cs us)
      walk_at "go"
      refine ⟨p, v, ws, _, rfl, sq_of (s6 _ _ e5), sq_of e6, by omega, by omega, wb _ lf (fw_nn R d0) (fw_worth R _), ?_⟩
      walk_at "go"
      refine ⟨p, u, ws, us, rfl, sq_of (s6 _ _ e5), sq_of (s6 _ _ eu5), by have := S.len; omega, by omega, wb _ S.len S.nn rfl, ?_⟩
      exact q _
    · intro Q' q'
      walk_at "go"
      exact q'
end
end Cj

namespace Cj
open PySem PySem.Spec PyProof.Rows L2
theorem all_mk {l : PySem.W.OpenLaw} {w : World} {K : PySem.W.Frag} {h : Heap} {mg : Str → Option Value} {fa f0 f1 f2 f3 f4 f5 f6 f7 f8 f9 f10 f11 f12 f13 f14 f15 xR xW xA xG xT xC : Addr} (X : K.In h) (G : h.Ns mainGlobals mg) (hfa : mg "law" = some (.ref fa))
    {od0 an0 od1 an1 od2 an2 od3 an3 od4 an4 od5 an5 od6 an6 od7 an7 od8 an8 od9 an9 od10 an10 od11 an11 od12 an12 od13 an13 od14 an14 od15 an15 : Option Addr} {sl0 sl1 sl2 sl3 sl4 sl5 sl6 sl7 sl8 sl9 sl10 sl11 sl12 sl13 sl14 sl15 : Array (Option Value)} {oc0 kV0 dc0 pm0 cd0 ct0 oc1 kV1 dc1 pm1 cd1 ct1 oc2 kV2 dc2 pm2 cd2 ct2 oc3 kV3 dc3 pm3 cd3 ct3 oc4 kV4 dc4 pm4 cd4 ct4 oc5 kV5 dc5 pm5 cd5 ct5 oc6 kV6 dc6 pm6 cd6 ct6 oc7 kV7 dc7 pm7 cd7 ct7 oc8 kV8 dc8 pm8 cd8 ct8 oc9 kV9 dc9 pm9 cd9 ct9 oc10 kV10 dc10 pm10 cd10 ct10 oc11 kV11 dc11 pm11 cd11 ct11 oc12 kV12 dc12 pm12 cd12 ct12 oc13 kV13 dc13 pm13 cd13 ct13 oc14 kV14 dc14 pm14 cd14 ct14 oc15 kV15 dc15 pm15 cd15 ct15 : Value} {t_MOST_AMOUNT t_MOST_TABLE : Tok}
    (a0 : PySem.W.nsIn K mainGlobals "need_amount" = some (some (.ref f0)))
    (l0 : K.lookup f0 = some ⟨oc0, od0, .func (PySem.W.fnOf "need_amount" "need_amount" (defArgs s_need_amount) (defBody s_need_amount) (defScope s_need_amount) .none kV0 dc0 pm0 an0 cd0 ct0), sl0⟩)
    (c0 : PySem.W.codeIn K cd0 "need_amount" = true)
    (k0 : PySem.W.keepIn K (.ref f0) = true)
    (a1 : PySem.W.nsIn K mainGlobals "counted" = some (some (.ref f1)))
    (l1 : K.lookup f1 = some ⟨oc1, od1, .func (PySem.W.fnOf "counted" "counted" (defArgs s_counted) (defBody s_counted) (defScope s_counted) .none kV1 dc1 pm1 an1 cd1 ct1), sl1⟩)
    (c1 : PySem.W.codeIn K cd1 "counted" = true)
    (k1 : PySem.W.keepIn K (.ref f1) = true)
    (a2 : PySem.W.nsIn K mainGlobals "fewest" = some (some (.ref f2)))
    (l2 : K.lookup f2 = some ⟨oc2, od2, .func (PySem.W.fnOf "fewest" "fewest" (defArgs s_fewest) (defBody s_fewest) (defScope s_fewest) .none kV2 dc2 pm2 an2 cd2 ct2), sl2⟩)
    (c2 : PySem.W.codeIn K cd2 "fewest" = true)
    (k2 : PySem.W.keepIn K (.ref f2) = true)
    (a3 : PySem.W.nsIn K mainGlobals "_law_whole" = some (some (.ref f3)))
    (l3 : K.lookup f3 = some ⟨oc3, od3, .func (PySem.W.fnOf "_law_whole" "_law_whole" (defArgs s__law_whole) (defBody s__law_whole) (defScope s__law_whole) .none kV3 dc3 pm3 an3 cd3 ct3), sl3⟩)
    (c3 : PySem.W.codeIn K cd3 "_law_whole" = true)
    (k3 : PySem.W.keepIn K (.ref f3) = true)
    (a4 : PySem.W.nsIn K mainGlobals "_law_cell_at" = some (some (.ref f4)))
    (l4 : K.lookup f4 = some ⟨oc4, od4, .func (PySem.W.fnOf "_law_cell_at" "_law_cell_at" (defArgs s__law_cell_at) (defBody s__law_cell_at) (defScope s__law_cell_at) .none kV4 dc4 pm4 an4 cd4 ct4), sl4⟩)
    (c4 : PySem.W.codeIn K cd4 "_law_cell_at" = true)
    (k4 : PySem.W.keepIn K (.ref f4) = true)
    (a5 : PySem.W.nsIn K mainGlobals "_law_row_by" = some (some (.ref f5)))
    (l5 : K.lookup f5 = some ⟨oc5, od5, .func (PySem.W.fnOf "_law_row_by" "_law_row_by" (defArgs s__law_row_by) (defBody s__law_row_by) (defScope s__law_row_by) .none kV5 dc5 pm5 an5 cd5 ct5), sl5⟩)
    (c5 : PySem.W.codeIn K cd5 "_law_row_by" = true)
    (k5 : PySem.W.keepIn K (.ref f5) = true)
    (a6 : PySem.W.nsIn K mainGlobals "_law_few" = some (some (.ref f6)))
    (l6 : K.lookup f6 = some ⟨oc6, od6, .func (PySem.W.fnOf "_law_few" "_law_few" (defArgs s__law_few) (defBody s__law_few) (defScope s__law_few) .none kV6 dc6 pm6 an6 cd6 ct6), sl6⟩)
    (c6 : PySem.W.codeIn K cd6 "_law_few" = true)
    (k6 : PySem.W.keepIn K (.ref f6) = true)
    (a7 : PySem.W.nsIn K mainGlobals "_law_way_by" = some (some (.ref f7)))
    (l7 : K.lookup f7 = some ⟨oc7, od7, .func (PySem.W.fnOf "_law_way_by" "_law_way_by" (defArgs s__law_way_by) (defBody s__law_way_by) (defScope s__law_way_by) .none kV7 dc7 pm7 an7 cd7 ct7), sl7⟩)
    (c7 : PySem.W.codeIn K cd7 "_law_way_by" = true)
    (k7 : PySem.W.keepIn K (.ref f7) = true)
    (a8 : PySem.W.nsIn K mainGlobals "_law_greatest_first" = some (some (.ref f8)))
    (l8 : K.lookup f8 = some ⟨oc8, od8, .func (PySem.W.fnOf "_law_greatest_first" "_law_greatest_first" (defArgs s__law_greatest_first) (defBody s__law_greatest_first) (defScope s__law_greatest_first) .none kV8 dc8 pm8 an8 cd8 ct8), sl8⟩)
    (c8 : PySem.W.codeIn K cd8 "_law_greatest_first" = true)
    (k8 : PySem.W.keepIn K (.ref f8) = true)
    (a9 : PySem.W.nsIn K mainGlobals "_law_worth" = some (some (.ref f9)))
    (l9 : K.lookup f9 = some ⟨oc9, od9, .func (PySem.W.fnOf "_law_worth" "_law_worth" (defArgs s__law_worth) (defBody s__law_worth) (defScope s__law_worth) .none kV9 dc9 pm9 an9 cd9 ct9), sl9⟩)
    (c9 : PySem.W.codeIn K cd9 "_law_worth" = true)
    (k9 : PySem.W.keepIn K (.ref f9) = true)
    (a10 : PySem.W.nsIn K mainGlobals "_law_not_behind" = some (some (.ref f10)))
    (l10 : K.lookup f10 = some ⟨oc10, od10, .func (PySem.W.fnOf "_law_not_behind" "_law_not_behind" (defArgs s__law_not_behind) (defBody s__law_not_behind) (defScope s__law_not_behind) .none kV10 dc10 pm10 an10 cd10 ct10), sl10⟩)
    (c10 : PySem.W.codeIn K cd10 "_law_not_behind" = true)
    (k10 : PySem.W.keepIn K (.ref f10) = true)
    (a11 : PySem.W.nsIn K mainGlobals "_law_refused" = some (some (.ref f11)))
    (l11 : K.lookup f11 = some ⟨oc11, od11, .func (PySem.W.fnOf "_law_refused" "_law_refused" (defArgs s__law_refused) (defBody s__law_refused) (defScope s__law_refused) .none kV11 dc11 pm11 an11 cd11 ct11), sl11⟩)
    (c11 : PySem.W.codeIn K cd11 "_law_refused" = true)
    (k11 : PySem.W.keepIn K (.ref f11) = true)
    (a12 : PySem.W.nsIn K mainGlobals "_law_kinds" = some (some (.ref f12)))
    (l12 : K.lookup f12 = some ⟨oc12, od12, .func (PySem.W.fnOf "_law_kinds" "_law_kinds" (defArgs s__law_kinds) (defBody s__law_kinds) (defScope s__law_kinds) .none kV12 dc12 pm12 an12 cd12 ct12), sl12⟩)
    (c12 : PySem.W.codeIn K cd12 "_law_kinds" = true)
    (k12 : PySem.W.keepIn K (.ref f12) = true)
    (a13 : PySem.W.nsIn K mainGlobals "_law_refused_by_any" = some (some (.ref f13)))
    (l13 : K.lookup f13 = some ⟨oc13, od13, .func (PySem.W.fnOf "_law_refused_by_any" "_law_refused_by_any" (defArgs s__law_refused_by_any) (defBody s__law_refused_by_any) (defScope s__law_refused_by_any) .none kV13 dc13 pm13 an13 cd13 ct13), sl13⟩)
    (c13 : PySem.W.codeIn K cd13 "_law_refused_by_any" = true)
    (k13 : PySem.W.keepIn K (.ref f13) = true)
    (a14 : PySem.W.nsIn K mainGlobals "_law_far" = some (some (.ref f14)))
    (l14 : K.lookup f14 = some ⟨oc14, od14, .func (PySem.W.fnOf "_law_far" "_law_far" (defArgs s__law_far) (defBody s__law_far) (defScope s__law_far) .none kV14 dc14 pm14 an14 cd14 ct14), sl14⟩)
    (c14 : PySem.W.codeIn K cd14 "_law_far" = true)
    (k14 : PySem.W.keepIn K (.ref f14) = true)
    (a15 : PySem.W.nsIn K mainGlobals "law" = some (some (.ref f15)))
    (l15 : K.lookup f15 = some ⟨oc15, od15, .func (PySem.W.fnOf "law" "law" (defArgs s_law) (defBody s_law) (defScope s_law) .none kV15 dc15 pm15 an15 cd15 ct15), sl15⟩)
    (c15 : PySem.W.codeIn K cd15 "law" = true)
    (k15 : PySem.W.keepIn K (.ref f15) = true)
    (e_MOST_AMOUNT : PySem.W.nsIn K mainGlobals "MOST_AMOUNT" = some (some (.int 100000000000000000000000000000000000000000000000000000000000000000000000000000000 t_MOST_AMOUNT)))
    (e_MOST_TABLE : PySem.W.nsIn K mainGlobals "MOST_TABLE" = some (some (.int 400 t_MOST_TABLE)))
    (z_len : PySem.W.nsIn K mainGlobals "len" = some none)
    (z_range : PySem.W.nsIn K mainGlobals "range" = some none)
    (z_list : PySem.W.nsIn K mainGlobals "list" = some none)
    (z_sum : PySem.W.nsIn K mainGlobals "sum" = some none)
    (z_min : PySem.W.nsIn K mainGlobals "min" = some none)
    (z_max : PySem.W.nsIn K mainGlobals "max" = some none)
    (z_isinstance : PySem.W.nsIn K mainGlobals "isinstance" = some none)
    (z_str : PySem.W.nsIn K mainGlobals "str" = some none)
    (z_int : PySem.W.nsIn K mainGlobals "int" = some none)
    (z_bool : PySem.W.nsIn K mainGlobals "bool" = some none)
    (z_tuple : PySem.W.nsIn K mainGlobals "tuple" = some none)
    (z_ValueError : PySem.W.nsIn K mainGlobals "ValueError" = some none)
    (n_NoRow : PySem.W.nsIn K mainGlobals "NoRow" = some (some (.ref xR)))
    (n_NoWay : PySem.W.nsIn K mainGlobals "NoWay" = some (some (.ref xW)))
    (n_NoAmount : PySem.W.nsIn K mainGlobals "NoAmount" = some (some (.ref xA)))
    (n_TooGreat : PySem.W.nsIn K mainGlobals "TooGreat" = some (some (.ref xG)))
    (n_NoText : PySem.W.nsIn K mainGlobals "NoText" = some (some (.ref xT)))
    (n_CoinError : PySem.W.nsIn K mainGlobals "CoinError" = some (some (.ref xC)))
    (e_hg : PySem.W.findIn K (.ref xA) "__getattribute__" = some (some (.builtin "BaseException.__getattribute__")))
    (e_hk : PySem.W.findIn K (.ref xA) "__getattr__" = some none)
    (e_hs : PySem.W.subIn K (.ref xA) (.type "BaseException") = some true)
    (e_hd : PySem.W.hasDictIn K xA = true)
    (e_ha : PySem.W.findIn K (.ref xA) "__class__" = some (some (.builtin "object.__class__")))
    (e_hn : PySem.W.specialIn K (.builtin "object.__class__") "__get__" = some (some (.builtin "getset_descriptor.__get__")))
    (e_ht : PySem.W.takesIn K (.builtin "object.__class__") = some true)
    (e_hm : PySem.W.mroIn K xA (.type "object") = some true)
    (e_q0 : PySem.W.subIn K (.ref xA) (.ref xR) = some false)
    (e_x0 : PySem.W.hasDictIn K xR = true)
    (e_t0 : PySem.W.typeIn K (.ref xR) = some (.type "type"))
    (e_d0 : (xA == xR) = false)
    (e_q1 : PySem.W.subIn K (.ref xA) (.ref xW) = some false)
    (e_x1 : PySem.W.hasDictIn K xW = true)
    (e_t1 : PySem.W.typeIn K (.ref xW) = some (.type "type"))
    (e_d1 : (xA == xW) = false)
    (e_q3 : PySem.W.subIn K (.ref xA) (.ref xG) = some false)
    (e_x3 : PySem.W.hasDictIn K xG = true)
    (e_t3 : PySem.W.typeIn K (.ref xG) = some (.type "type"))
    (e_d3 : (xA == xG) = false)
    (e_q4 : PySem.W.subIn K (.ref xA) (.ref xT) = some false)
    (e_x4 : PySem.W.hasDictIn K xT = true)
    (e_t4 : PySem.W.typeIn K (.ref xT) = some (.type "type"))
    (e_d4 : (xA == xT) = false)
    (e_qV : PySem.W.subIn K (.ref xA) (.type "ValueError") = some true)
    (e_DD : PySem.W.subIn K (.ref xA) (.ref xA) = some true)
    (e_DC : PySem.W.subIn K (.ref xA) (.ref xC) = some true)
    (e_sC : PySem.W.subIn K (.ref xC) (.type "BaseException") = some true)
    (e_dC : PySem.W.hasDictIn K xC = true)
    (e_tC : PySem.W.typeIn K (.ref xC) = some (.type "type"))
    (e_ki : PySem.W.keepIn K (.ref xA) = true)
    (e_rt : PySem.W.typeIn K (.ref xA) = some (.type "type"))
    (e_ex : PySem.W.excIn K xA [.type "ValueError", .type "Exception", .type "BaseException", .type "object"] "ValueError.__new__" = true)
    (g_hg : PySem.W.findIn K (.ref xG) "__getattribute__" = some (some (.builtin "BaseException.__getattribute__")))
    (g_hk : PySem.W.findIn K (.ref xG) "__getattr__" = some none)
    (g_hs : PySem.W.subIn K (.ref xG) (.type "BaseException") = some true)
    (g_hd : PySem.W.hasDictIn K xG = true)
    (g_ha : PySem.W.findIn K (.ref xG) "__class__" = some (some (.builtin "object.__class__")))
    (g_hn : PySem.W.specialIn K (.builtin "object.__class__") "__get__" = some (some (.builtin "getset_descriptor.__get__")))
    (g_ht : PySem.W.takesIn K (.builtin "object.__class__") = some true)
    (g_hm : PySem.W.mroIn K xG (.type "object") = some true)
    (g_q0 : PySem.W.subIn K (.ref xG) (.ref xR) = some false)
    (g_x0 : PySem.W.hasDictIn K xR = true)
    (g_t0 : PySem.W.typeIn K (.ref xR) = some (.type "type"))
    (g_d0 : (xG == xR) = false)
    (g_q1 : PySem.W.subIn K (.ref xG) (.ref xW) = some false)
    (g_x1 : PySem.W.hasDictIn K xW = true)
    (g_t1 : PySem.W.typeIn K (.ref xW) = some (.type "type"))
    (g_d1 : (xG == xW) = false)
    (g_q2 : PySem.W.subIn K (.ref xG) (.ref xA) = some false)
    (g_x2 : PySem.W.hasDictIn K xA = true)
    (g_t2 : PySem.W.typeIn K (.ref xA) = some (.type "type"))
    (g_d2 : (xG == xA) = false)
    (g_q4 : PySem.W.subIn K (.ref xG) (.ref xT) = some false)
    (g_x4 : PySem.W.hasDictIn K xT = true)
    (g_t4 : PySem.W.typeIn K (.ref xT) = some (.type "type"))
    (g_d4 : (xG == xT) = false)
    (g_qV : PySem.W.subIn K (.ref xG) (.type "ValueError") = some true)
    (g_DD : PySem.W.subIn K (.ref xG) (.ref xG) = some true)
    (g_DC : PySem.W.subIn K (.ref xG) (.ref xC) = some true)
    (g_sC : PySem.W.subIn K (.ref xC) (.type "BaseException") = some true)
    (g_dC : PySem.W.hasDictIn K xC = true)
    (g_tC : PySem.W.typeIn K (.ref xC) = some (.type "type"))
    (g_ki : PySem.W.keepIn K (.ref xG) = true)
    (g_rt : PySem.W.typeIn K (.ref xG) = some (.type "type"))
    (g_ex : PySem.W.excIn K xG [.type "ValueError", .type "Exception", .type "BaseException", .type "object"] "ValueError.__new__" = true)
    (e_12 : PySem.W.subIn K (.ref xG) (.ref xA) = some false) :
    ∃ fd : FuncData, (∀ (s : Shared) (v : Value), BindsTo s fd ⟨[v], []⟩ [("_law_script", v)]) ∧ ∀ base : Heap, K.In base → base.Ns mainGlobals mg → FnOk l.prog w K mg base CX0 4 fa fd ["_law_script"] (spLaw K) := by
  have e := hfa.symm.trans (PySem.W.mg_of X G a15)
  cases e
  have T : Bn mg := ⟨PySem.W.mg_none_of X G z_len, PySem.W.mg_none_of X G z_range, PySem.W.mg_none_of X G z_list, PySem.W.mg_none_of X G z_sum, PySem.W.mg_none_of X G z_min, PySem.W.mg_none_of X G z_max, PySem.W.mg_none_of X G z_isinstance, PySem.W.mg_none_of X G z_str, PySem.W.mg_none_of X G z_int, PySem.W.mg_none_of X G z_bool, PySem.W.mg_none_of X G z_tuple, PySem.W.mg_none_of X G z_ValueError⟩
  have gc_MOST_AMOUNT := PySem.W.mg_of X G e_MOST_AMOUNT
  have gc_MOST_TABLE := PySem.W.mg_of X G e_MOST_TABLE
  have D : ExD K mg xR xW xA xG xT xC xA "NoAmount" false false true false false := ⟨⟨e_hg, e_hk, e_hs, e_hd, e_ha, e_hn, e_ht, e_hm⟩, PySem.W.mg_of X G n_NoRow, PySem.W.mg_of X G n_NoWay, PySem.W.mg_of X G n_NoAmount, PySem.W.mg_of X G n_TooGreat, PySem.W.mg_of X G n_NoText, PySem.W.mg_of X G n_CoinError, PySem.W.mg_of X G n_NoAmount, kit_other e_d0 e_x0 e_t0 e_q0, kit_other e_d1 e_x1 e_t1 e_q1, kit_self, kit_other e_d3 e_x3 e_t3 e_q3, kit_other e_d4 e_x4 e_t4 e_q4, kit_type (by decide +kernel) e_qV, by decide, PySem.W.exm_ref e_hs e_hd e_rt e_DD, PySem.W.exm_ref e_sC e_dC e_tC e_DC, e_ki, e_hs, e_rt, e_ex⟩
  have D2 : ExD K mg xR xW xA xG xT xC xG "TooGreat" false false false true false := ⟨⟨g_hg, g_hk, g_hs, g_hd, g_ha, g_hn, g_ht, g_hm⟩, PySem.W.mg_of X G n_NoRow, PySem.W.mg_of X G n_NoWay, PySem.W.mg_of X G n_NoAmount, PySem.W.mg_of X G n_TooGreat, PySem.W.mg_of X G n_NoText, PySem.W.mg_of X G n_CoinError, PySem.W.mg_of X G n_TooGreat, kit_other g_d0 g_x0 g_t0 g_q0, kit_other g_d1 g_x1 g_t1 g_q1, kit_other g_d2 g_x2 g_t2 g_q2, kit_self, kit_other g_d4 g_x4 g_t4 g_q4, kit_type (by decide +kernel) g_qV, by decide, PySem.W.exm_ref g_hs g_hd g_rt g_DD, PySem.W.exm_ref g_sC g_dC g_tC g_DC, g_ki, g_hs, g_rt, g_ex⟩
  have x12 := PySem.W.exm_ref e_hs e_hd e_rt e_12
  have F0 := fun_mk (st := s_need_amount) l0 c0 k0
  have F1 := fun_mk (st := s_counted) l1 c1 k1
  have F2 := fun_mk (st := s_fewest) l2 c2 k2
  have F3 := fun_mk (st := s__law_whole) l3 c3 k3
  have F4 := fun_mk (st := s__law_cell_at) l4 c4 k4
  have F5 := fun_mk (st := s__law_row_by) l5 c5 k5
  have F6 := fun_mk (st := s__law_few) l6 c6 k6
  have F7 := fun_mk (st := s__law_way_by) l7 c7 k7
  have F8 := fun_mk (st := s__law_greatest_first) l8 c8 k8
  have F9 := fun_mk (st := s__law_worth) l9 c9 k9
  have F10 := fun_mk (st := s__law_not_behind) l10 c10 k10
  have F11 := fun_mk (st := s__law_refused) l11 c11 k11
  have F12 := fun_mk (st := s__law_kinds) l12 c12 k12
  have F13 := fun_mk (st := s__law_refused_by_any) l13 c13 k13
  have F14 := fun_mk (st := s__law_far) l14 c14 k14
  have F15 := fun_mk (st := s_law) l15 c15 k15
  refine ⟨PySem.W.fnOf "law" "law" (defArgs s_law) (defBody s_law) (defScope s_law) .none kV15 dc15 pm15 an15 cd15 ct15, fun s v => .of_eq rfl, fun base _ _ => ?_⟩
  have r_need_amount : CalR l.prog w K mg base 1 "need_amount" ["amount"] (spNeedX xA) := ⟨⟨f0, _, ok_needX F0 gc_MOST_AMOUNT D, PySem.W.mg_of X G a0, k0, F0.binds (ps := ["amount"]) fun _ _ _ _ _ _ us hl => match us, hl with | [_], _ => rfl⟩⟩
  have c_counted : Cal l.prog w K mg base 1 "counted" ["coins", "amount"] (spCounted K) := ⟨⟨f1, _, ok_counted F1 T, PySem.W.mg_of X G a1, k1, F1.binds (ps := ["coins", "amount"]) fun _ _ _ _ _ _ us hl => match us, hl with | [_, _], _ => rfl⟩⟩
  have r_fewest : CalR l.prog w K mg base 2 "fewest" ["coins", "amount"] (spFew K xA xG) := ⟨⟨f2, _, ok_few F2 T gc_MOST_TABLE D2 r_need_amount c_counted, PySem.W.mg_of X G a2, k2, F2.binds (ps := ["coins", "amount"]) fun _ _ _ _ _ _ us hl => match us, hl with | [_, _], _ => rfl⟩⟩
  have c__law_whole : Cal l.prog w K mg base 1 "_law_whole" ["_law_found"] (spWhole) := ⟨⟨f3, _, ok_whole F3 T, PySem.W.mg_of X G a3, k3, F3.binds (ps := ["_law_found"]) fun _ _ _ _ _ _ us hl => match us, hl with | [_], _ => rfl⟩⟩
  have c__law_cell_at : Cal l.prog w K mg base 1 "_law_cell_at" ["_law_script", "_law_k"] (spCell K) := ⟨⟨f4, _, ok_cell F4 T, PySem.W.mg_of X G a4, k4, F4.binds (ps := ["_law_script", "_law_k"]) fun _ _ _ _ _ _ us hl => match us, hl with | [_, _], _ => rfl⟩⟩
  have c__law_row_by : Cal l.prog w K mg base 2 "_law_row_by" ["_law_script"] (spRowBy K) := ⟨⟨f5, _, ok_rowBy F5 T c__law_cell_at, PySem.W.mg_of X G a5, k5, F5.binds (ps := ["_law_script"]) fun _ _ _ _ _ _ us hl => match us, hl with | [_], _ => rfl⟩⟩
  have c__law_few : Cal l.prog w K mg base 2 "_law_few" ["_law_script", "_law_row", "_law_many"] (spFewWay K) := ⟨⟨f6, _, ok_fewWay F6 T c__law_cell_at, PySem.W.mg_of X G a6, k6, F6.binds (ps := ["_law_script", "_law_row", "_law_many"]) fun _ _ _ _ _ _ us hl => match us, hl with | [_, _, _], _ => rfl⟩⟩
  have c__law_way_by : Cal l.prog w K mg base 3 "_law_way_by" ["_law_script", "_law_row"] (spWay7 K) := ⟨⟨f7, _, ok_way7 F7 T c__law_cell_at c__law_few, PySem.W.mg_of X G a7, k7, F7.binds (ps := ["_law_script", "_law_row"]) fun _ _ _ _ _ _ us hl => match us, hl with | [_, _], _ => rfl⟩⟩
  have c__law_greatest_first : Cal l.prog w K mg base 1 "_law_greatest_first" ["_law_row", "_law_amount"] (spGF K) := ⟨⟨f8, _, ok_gf F8 T, PySem.W.mg_of X G a8, k8, F8.binds (ps := ["_law_row", "_law_amount"]) fun _ _ _ _ _ _ us hl => match us, hl with | [_, _], _ => rfl⟩⟩
  have c__law_worth : Cal l.prog w K mg base 1 "_law_worth" ["_law_row", "_law_way"] (spLW K) := ⟨⟨f9, _, ok_lw F9 T, PySem.W.mg_of X G a9, k9, F9.binds (ps := ["_law_row", "_law_way"]) fun _ _ _ _ _ _ us hl => match us, hl with | [_, _], _ => rfl⟩⟩
  have c__law_not_behind : Cal l.prog w K mg base 1 "_law_not_behind" ["_law_found", "_law_other"] (spNB K) := ⟨⟨f10, _, ok_nb F10 T, PySem.W.mg_of X G a10, k10, F10.binds (ps := ["_law_found", "_law_other"]) fun _ _ _ _ _ _ us hl => match us, hl with | [_, _], _ => rfl⟩⟩
  have c__law_refused : Cal l.prog w K mg base 3 "_law_refused" ["_law_row", "_law_amount"] (spRef K) := ⟨⟨f11, _, ok_ref F11 T D D2 x12 r_fewest, PySem.W.mg_of X G a11, k11, F11.binds (ps := ["_law_row", "_law_amount"]) fun _ _ _ _ _ _ us hl => match us, hl with | [_, _], _ => rfl⟩⟩
  have c__law_kinds : CalP l.prog w K mg base 1 "_law_kinds" ["_law_e"] (fun cls d H Q => spKinds xA cls d H Q ∨ spKinds xG cls d H Q) := ⟨⟨f12, _, (kinds_two (ok_kinds F12 T D) (ok_kinds F12 T D2)), PySem.W.mg_of X G a12, k12, F12.binds (ps := ["_law_e"]) fun _ _ _ _ _ _ us hl => match us, hl with | [_], _ => rfl, rfl⟩⟩
  have c__law_refused_by_any : Cal l.prog w K mg base 3 "_law_refused_by_any" ["_law_row", "_law_amount"] (spAny K) := ⟨⟨f13, _, ok_any F13 T D D2 r_fewest c__law_kinds, PySem.W.mg_of X G a13, k13, F13.binds (ps := ["_law_row", "_law_amount"]) fun _ _ _ _ _ _ us hl => match us, hl with | [_, _], _ => rfl⟩⟩
  have c__law_far : Cal l.prog w K mg base 1 "_law_far" ["_law_cell"] (spFar) := ⟨⟨f14, _, ok_far F14 T, PySem.W.mg_of X G a14, k14, F14.binds (ps := ["_law_cell"]) fun _ _ _ _ _ _ us hl => match us, hl with | [_], _ => rfl⟩⟩
  exact ok_law F15 T gc_MOST_TABLE gc_MOST_AMOUNT c__law_row_by c__law_cell_at c__law_whole c__law_far c__law_refused c__law_refused_by_any c__law_way_by c__law_worth r_fewest c__law_not_behind c__law_greatest_first
end Cj
open PySem PySem.W PyProof.Rows
set_option maxRecDepth 100000 in
set_option maxHeartbeats 0 in
theorem PySem.Challenge.cw_coinjudge_k07_fewest_pieces_holds : PySem.Challenge.rw_coinjudge_k07_fewest_pieces.Holds := by
  w_on; o_law; k_head; (case hw => w_witness2)
  k_fill
  refine L2.walk_ofB (l := PySem.Challenge.rw_coinjudge_k07_fewest_pieces) (n := 63) (k := 4) (x := "_law_script") (CX := fun _ => L2.CX0) (sp := fun w => Cj.spLaw _) rfl (by decide) rfl ⟨rfl, by decide, by decide⟩ (fun w h Y => PySem.W.kIn_of Y) ?F (fun _ _ a ns hl hb _ hS => ⟨a, ns, rfl, hS, hl, hb, fun _ => rfl⟩) (fun _ _ _ _ _ h => h)
  case F =>
    intro w mg fa h KX G hmg
    refine' Cj.all_mk KX G hmg ?a0 ?l0 ?c0 ?k0 ?a1 ?l1 ?c1 ?k1 ?a2 ?l2 ?c2 ?k2 ?a3 ?l3 ?c3 ?k3 ?a4 ?l4 ?c4 ?k4 ?a5 ?l5 ?c5 ?k5 ?a6 ?l6 ?c6 ?k6 ?a7 ?l7 ?c7 ?k7 ?a8 ?l8 ?c8 ?k8 ?a9 ?l9 ?c9 ?k9 ?a10 ?l10 ?c10 ?k10 ?a11 ?l11 ?c11 ?k11 ?a12 ?l12 ?c12 ?k12 ?a13 ?l13 ?c13 ?k13 ?a14 ?l14 ?c14 ?k14 ?a15 ?l15 ?c15 ?k15 ?e_MOST_AMOUNT ?e_MOST_TABLE ?z_len ?z_range ?z_list ?z_sum ?z_min ?z_max ?z_isinstance ?z_str ?z_int ?z_bool ?z_tuple ?z_ValueError ?n_NoRow ?n_NoWay ?n_NoAmount ?n_TooGreat ?n_NoText ?n_CoinError ?e_hg ?e_hk ?e_hs ?e_hd ?e_ha ?e_hn ?e_ht ?e_hm ?e_q0 ?e_x0 ?e_t0 ?e_d0 ?e_q1 ?e_x1 ?e_t1 ?e_d1 ?e_q3 ?e_x3 ?e_t3 ?e_d3 ?e_q4 ?e_x4 ?e_t4 ?e_d4 ?e_qV ?e_DD ?e_DC ?e_sC ?e_dC ?e_tC ?e_ki ?e_rt ?e_ex ?g_hg ?g_hk ?g_hs ?g_hd ?g_ha ?g_hn ?g_ht ?g_hm ?g_q0 ?g_x0 ?g_t0 ?g_d0 ?g_q1 ?g_x1 ?g_t1 ?g_d1 ?g_q2 ?g_x2 ?g_t2 ?g_d2 ?g_q4 ?g_x4 ?g_t4 ?g_d4 ?g_qV ?g_DD ?g_DC ?g_sC ?g_dC ?g_tC ?g_ki ?g_rt ?g_ex ?e_12
    (case a0 => k_is)
    (case l0 => k_is)
    (case c0 => k_is)
    (case k0 => k_is)
    (case a1 => k_is)
    (case l1 => k_is)
    (case c1 => k_is)
    (case k1 => k_is)
    (case a2 => k_is)
    (case l2 => k_is)
    (case c2 => k_is)
    (case k2 => k_is)
    (case a3 => k_is)
    (case l3 => k_is)
    (case c3 => k_is)
    (case k3 => k_is)
    (case a4 => k_is)
    (case l4 => k_is)
    (case c4 => k_is)
    (case k4 => k_is)
    (case a5 => k_is)
    (case l5 => k_is)
    (case c5 => k_is)
    (case k5 => k_is)
    (case a6 => k_is)
    (case l6 => k_is)
    (case c6 => k_is)
    (case k6 => k_is)
    (case a7 => k_is)
    (case l7 => k_is)
    (case c7 => k_is)
    (case k7 => k_is)
    (case a8 => k_is)
    (case l8 => k_is)
    (case c8 => k_is)
    (case k8 => k_is)
    (case a9 => k_is)
    (case l9 => k_is)
    (case c9 => k_is)
    (case k9 => k_is)
    (case a10 => k_is)
    (case l10 => k_is)
    (case c10 => k_is)
    (case k10 => k_is)
    (case a11 => k_is)
    (case l11 => k_is)
    (case c11 => k_is)
    (case k11 => k_is)
    (case a12 => k_is)
    (case l12 => k_is)
    (case c12 => k_is)
    (case k12 => k_is)
    (case a13 => k_is)
    (case l13 => k_is)
    (case c13 => k_is)
    (case k13 => k_is)
    (case a14 => k_is)
    (case l14 => k_is)
    (case c14 => k_is)
    (case k14 => k_is)
    (case a15 => k_is)
    (case l15 => k_is)
    (case c15 => k_is)
    (case k15 => k_is)
    (case e_MOST_AMOUNT => first | k_is | k_exc | decide +kernel)
    (case e_MOST_TABLE => first | k_is | k_exc | decide +kernel)
    (case z_len => k_is)
    (case z_range => k_is)
    (case z_list => k_is)
    (case z_sum => k_is)
    (case z_min => k_is)
    (case z_max => k_is)
    (case z_isinstance => k_is)
    (case z_str => k_is)
    (case z_int => k_is)
    (case z_bool => k_is)
    (case z_tuple => k_is)
    (case z_ValueError => k_is)
    (case n_NoRow => k_is)
    (case n_NoWay => k_is)
    (case n_NoAmount => k_is)
    (case n_TooGreat => k_is)
    (case n_NoText => k_is)
    (case n_CoinError => k_is)
    (case e_hg => first | k_is | k_exc | decide +kernel)
    (case e_hk => first | k_is | k_exc | decide +kernel)
    (case e_hs => first | k_is | k_exc | decide +kernel)
    (case e_hd => first | k_is | k_exc | decide +kernel)
    (case e_ha => first | k_is | k_exc | decide +kernel)
    (case e_hn => first | k_is | k_exc | decide +kernel)
    (case e_ht => first | k_is | k_exc | decide +kernel)
    (case e_hm => first | k_is | k_exc | decide +kernel)
    (case e_q0 => first | k_is | k_exc | decide +kernel)
    (case e_x0 => first | k_is | k_exc | decide +kernel)
    (case e_t0 => first | k_is | k_exc | decide +kernel)
    (case e_d0 => first | k_is | k_exc | decide +kernel)
    (case e_q1 => first | k_is | k_exc | decide +kernel)
    (case e_x1 => first | k_is | k_exc | decide +kernel)
    (case e_t1 => first | k_is | k_exc | decide +kernel)
    (case e_d1 => first | k_is | k_exc | decide +kernel)
    (case e_q3 => first | k_is | k_exc | decide +kernel)
    (case e_x3 => first | k_is | k_exc | decide +kernel)
    (case e_t3 => first | k_is | k_exc | decide +kernel)
    (case e_d3 => first | k_is | k_exc | decide +kernel)
    (case e_q4 => first | k_is | k_exc | decide +kernel)
    (case e_x4 => first | k_is | k_exc | decide +kernel)
    (case e_t4 => first | k_is | k_exc | decide +kernel)
    (case e_d4 => first | k_is | k_exc | decide +kernel)
    (case e_qV => first | k_is | k_exc | decide +kernel)
    (case e_DD => first | k_is | k_exc | decide +kernel)
    (case e_DC => first | k_is | k_exc | decide +kernel)
    (case e_sC => first | k_is | k_exc | decide +kernel)
    (case e_dC => first | k_is | k_exc | decide +kernel)
    (case e_tC => first | k_is | k_exc | decide +kernel)
    (case e_ki => first | k_is | k_exc | decide +kernel)
    (case e_rt => first | k_is | k_exc | decide +kernel)
    (case e_ex => first | k_is | k_exc | decide +kernel)
    (case g_hg => first | k_is | k_exc | decide +kernel)
    (case g_hk => first | k_is | k_exc | decide +kernel)
    (case g_hs => first | k_is | k_exc | decide +kernel)
    (case g_hd => first | k_is | k_exc | decide +kernel)
    (case g_ha => first | k_is | k_exc | decide +kernel)
    (case g_hn => first | k_is | k_exc | decide +kernel)
    (case g_ht => first | k_is | k_exc | decide +kernel)
    (case g_hm => first | k_is | k_exc | decide +kernel)
    (case g_q0 => first | k_is | k_exc | decide +kernel)
    (case g_x0 => first | k_is | k_exc | decide +kernel)
    (case g_t0 => first | k_is | k_exc | decide +kernel)
    (case g_d0 => first | k_is | k_exc | decide +kernel)
    (case g_q1 => first | k_is | k_exc | decide +kernel)
    (case g_x1 => first | k_is | k_exc | decide +kernel)
    (case g_t1 => first | k_is | k_exc | decide +kernel)
    (case g_d1 => first | k_is | k_exc | decide +kernel)
    (case g_q2 => first | k_is | k_exc | decide +kernel)
    (case g_x2 => first | k_is | k_exc | decide +kernel)
    (case g_t2 => first | k_is | k_exc | decide +kernel)
    (case g_d2 => first | k_is | k_exc | decide +kernel)
    (case g_q4 => first | k_is | k_exc | decide +kernel)
    (case g_x4 => first | k_is | k_exc | decide +kernel)
    (case g_t4 => first | k_is | k_exc | decide +kernel)
    (case g_d4 => first | k_is | k_exc | decide +kernel)
    (case g_qV => first | k_is | k_exc | decide +kernel)
    (case g_DD => first | k_is | k_exc | decide +kernel)
    (case g_DC => first | k_is | k_exc | decide +kernel)
    (case g_sC => first | k_is | k_exc | decide +kernel)
    (case g_dC => first | k_is | k_exc | decide +kernel)
    (case g_tC => first | k_is | k_exc | decide +kernel)
    (case g_ki => first | k_is | k_exc | decide +kernel)
    (case g_rt => first | k_is | k_exc | decide +kernel)
    (case g_ex => first | k_is | k_exc | decide +kernel)
    (case e_12 => first | k_is | k_exc | decide +kernel)
#print axioms PySem.Challenge.cw_coinjudge_k07_fewest_pieces_holds

